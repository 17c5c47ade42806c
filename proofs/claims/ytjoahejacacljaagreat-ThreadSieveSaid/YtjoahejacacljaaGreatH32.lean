/- Part 32. -/
import Derived.Conc.CompanyDraw
import Derived.Test.YtjoahejacacljaaGreatH28
import Derived.Test.YtjoahejacacljaaGreatH30
import Derived.Test.YtjoahejacacljaaGreatRows
import Derived.Test.YtjoahejacacljaaGreatH07
set_option maxRecDepth 100000
set_option maxHeartbeats 0
set_option linter.all false
namespace Go.Proofs.Tryz
open Go Go.Conc Go.ConcN Go.ConcM Go.RowKit Go.Conc.Lib Go.ConcR.Gen cS
section
attribute [local instance] noSh gX
section
variable {main:Bool} {Z:fO} {own:Nat->Prop} {Stop:(Nat->Prop)->Goroutine->World->Prop}
variable {b:Frame} {a:Act} {kk:List Item} {cs:List Frame} {W:World} {ops:Array Oper} {i:Nat} {rest:List Nat} {o:Oper} {x y:Operand} {ad:Addr}
def VU{v1 v2 v3 v4:Value}(ho:ops[i]?=some o)(hw:Region.wanted o (yielded ops a.tmps)=true)(hk:b.kind≠ .early)(hop:o.op=.box 40 x)(hx:a.eval x=.agg #[v1,v2,v3,v4])(hnm:¬Z.mute)(hsy:∀b,Z.sy b->b<W.heap.size)
 (hn:∀W1,dM Z own W W1->Gw Tryz.prog main Z Stop (λc=>own c∨c=W1.heap.size) (G (b.at (a.put o.dst (.pointer (some ⟨W1.heap.size,0,none⟩))) (.inRegion ops rest::kk)) cs) { W1 with heap:=W1.heap.push (.cells #[v1,v2,v3,v4] 40) }):
 Gw Tryz.prog main Z Stop own (G (b.at a (.inRegion ops (i::rest)::kk)) cs) W:=
 uH (f:= λW1=>.pointer (some ⟨W1.heap.size,0,none⟩)) ho hw hk hnm hsy (λW1 hr=>by
  refine⟨?_,?_⟩
  .unfold execOp;simp only[hop,hx];simp[go_sem]
  .unfold execOp;simp only[hop,hx];simp[go_sem]) hn
def VV(ho:ops[i]?=some o)(hw:Region.wanted o (yielded ops a.tmps)=true)(hk:b.kind≠ .early)(hop:o.op=.alloc 22)(hnm:¬Z.mute)(hsy:∀b,Z.sy b->b<W.heap.size)
 (hn:∀W1,dM Z own W W1->Gw Tryz.prog main Z Stop (λc=>own c∨c=W1.heap.size) (G (b.at (a.put o.dst (.pointer (some ⟨W1.heap.size,0,none⟩))) (.inRegion ops rest::kk)) cs) { W1 with heap:=W1.heap.push (.cells #[.slice none 0 0] 22) }):
 Gw Tryz.prog main Z Stop own (G (b.at a (.inRegion ops (i::rest)::kk)) cs) W:=
 uH (f:= λW1=>.pointer (some ⟨W1.heap.size,0,none⟩)) ho hw hk hnm hsy (λW1 hr=>by
  refine⟨?_,?_⟩
  .unfold execOp;simp only[hop];simp[go_sem]
  .unfold execOp;simp only[hop];simp[go_sem]) hn
def Fg(ho:ops[i]?=some o)(hw:Region.wanted o (yielded ops a.tmps)=true)(hk:b.kind≠ .early)(hop:o.op=.alloc 4)(hnm:¬Z.mute)(hsy:∀b,Z.sy b->b<W.heap.size)
 (hn:∀W1,dM Z own W W1->Gw Tryz.prog main Z Stop (λc=>own c∨c=W1.heap.size) (G (b.at (a.put o.dst (.pointer (some ⟨W1.heap.size,0,none⟩))) (.inRegion ops rest::kk)) cs) { W1 with heap:=W1.heap.push (.cells #[.bool false] 4) }):
 Gw Tryz.prog main Z Stop own (G (b.at a (.inRegion ops (i::rest)::kk)) cs) W:=
 uH (f:= λW1=>.pointer (some ⟨W1.heap.size,0,none⟩)) ho hw hk hnm hsy (λW1 hr=>by
  refine⟨?_,?_⟩
  .unfold execOp;simp only[hop];simp[go_sem]
  .unfold execOp;simp only[hop];simp[go_sem]) hn
def Ti(ho:ops[i]?=some o)(hw:Region.wanted o (yielded ops a.tmps)=true)(hk:b.kind≠ .early)(hop:o.op=.alloc 75)(hnm:¬Z.mute)(hsy:∀b,Z.sy b->b<W.heap.size)
 (hn:∀W1,dM Z own W W1->Gw Tryz.prog main Z Stop (λc=>own c∨c=W1.heap.size) (G (b.at (a.put o.dst (.pointer (some ⟨W1.heap.size,0,none⟩))) (.inRegion ops rest::kk)) cs) { W1 with heap:=W1.heap.push (.cells #[.pointer none] 75) }):
 Gw Tryz.prog main Z Stop own (G (b.at a (.inRegion ops (i::rest)::kk)) cs) W:=
 uH (f:= λW1=>.pointer (some ⟨W1.heap.size,0,none⟩)) ho hw hk hnm hsy (λW1 hr=>by
  refine⟨?_,?_⟩
  .unfold execOp;simp only[hop];simp[go_sem]
  .unfold execOp;simp only[hop];simp[go_sem]) hn
def VW(ho:ops[i]?=some o)(hw:Region.wanted o (yielded ops a.tmps)=true)(hk:b.kind≠ .early)(hop:o.op=.alloc 83)(hnm:¬Z.mute)(hsy:∀b,Z.sy b->b<W.heap.size)
 (hn:∀W1,dM Z own W W1->Gw Tryz.prog main Z Stop (λc=>own c∨c=W1.heap.size) (G (b.at (a.put o.dst (.pointer (some ⟨W1.heap.size,0,none⟩))) (.inRegion ops rest::kk)) cs) { W1 with heap:=W1.heap.push (.cells #[.int .i32 0,.int .u32 0] 83) }):
 Gw Tryz.prog main Z Stop own (G (b.at a (.inRegion ops (i::rest)::kk)) cs) W:=
 uH (f:= λW1=>.pointer (some ⟨W1.heap.size,0,none⟩)) ho hw hk hnm hsy (λW1 hr=>by
  refine⟨?_,?_⟩
  .unfold execOp;simp only[hop];simp[go_sem]
  .unfold execOp;simp only[hop];simp[go_sem]) hn
def VX(ho:ops[i]?=some o)(hw:Region.wanted o (yielded ops a.tmps)=true)(hk:b.kind≠ .early)(hop:o.op=.alloc 90)(hnm:¬Z.mute)(hsy:∀b,Z.sy b->b<W.heap.size)
 (hn:∀W1,dM Z own W W1->Gw Tryz.prog main Z Stop (λc=>own c∨c=W1.heap.size) (G (b.at (a.put o.dst (.pointer (some ⟨W1.heap.size,0,none⟩))) (.inRegion ops rest::kk)) cs) { W1 with heap:=W1.heap.push (.cells #[.int .u64 0,.int .u32 0] 90) }):
 Gw Tryz.prog main Z Stop own (G (b.at a (.inRegion ops (i::rest)::kk)) cs) W:=
 uH (f:= λW1=>.pointer (some ⟨W1.heap.size,0,none⟩)) ho hw hk hnm hsy (λW1 hr=>by
  refine⟨?_,?_⟩
  .unfold execOp;simp only[hop];simp[go_sem]
  .unfold execOp;simp only[hop];simp[go_sem]) hn
def Tk(ho:ops[i]?=some o)(hw:Region.wanted o (yielded ops a.tmps)=true)(hk:b.kind≠ .early)(hop:o.op=.alloc 94)(hnm:¬Z.mute)(hsy:∀b,Z.sy b->b<W.heap.size)
 (hn:∀W1,dM Z own W W1->Gw Tryz.prog main Z Stop (λc=>own c∨c=W1.heap.size) (G (b.at (a.put o.dst (.pointer (some ⟨W1.heap.size,0,none⟩))) (.inRegion ops rest::kk)) cs) { W1 with heap:=W1.heap.push (.cells #[.nilFunc] 94) }):
 Gw Tryz.prog main Z Stop own (G (b.at a (.inRegion ops (i::rest)::kk)) cs) W:=
 uH (f:= λW1=>.pointer (some ⟨W1.heap.size,0,none⟩)) ho hw hk hnm hsy (λW1 hr=>by
  refine⟨?_,?_⟩
  .unfold execOp;simp only[hop];simp[go_sem]
  .unfold execOp;simp only[hop];simp[go_sem]) hn
def Zc(ho:ops[i]?=some o)(hw:Region.wanted o (yielded ops a.tmps)=true)(hk:b.kind≠ .early)(hop:o.op=.buildSlice 95 2 #[(0,.const (.bool false)),(1,.const (.bool true))])(hnm:¬Z.mute)(hsy:∀b,Z.sy b->b<W.heap.size)
 (hn:∀W1,dM Z own W W1->Gw Tryz.prog main Z Stop (λc=>own c∨c=W1.heap.size) (G (b.at (a.put o.dst (.slice (some ⟨W1.heap.size,0,none⟩) 2 2)) (.inRegion ops rest::kk)) cs) { W1 with heap:=W1.heap.push (.cells #[.bool false,.bool true] 4) }):
 Gw Tryz.prog main Z Stop own (G (b.at a (.inRegion ops (i::rest)::kk)) cs) W:=
 uH (f:= λW1=>.slice (some ⟨W1.heap.size,0,none⟩) 2 2) ho hw hk hnm hsy (λW1 hr=>by
  refine⟨?_,?_⟩
  .unfold execOp;simp only[hop];simp[go_sem]
  .unfold execOp;simp only[hop];simp[go_sem]) hn
def Tm{v1 v2 v3 v4:Value}{e:TypeId}{fr:Nat×Nat}{bb:Nat}(ho:ops[i]?=some o)(hw:Region.wanted o (yielded ops a.tmps)=true)(hk:b.kind≠ .early)(hop:o.op=.load 40 x)(hx:a.eval x=.pointer (some ⟨bb,0,none⟩))(hnm:¬Z.mute)
 (hz:own bb∨Z.ro bb) (hc:W.heap[bb]?=some (.cells #[v1,v2,v3,v4] e fr))
 (hn:∀W1,dM Z own W W1->Gw Tryz.prog main Z Stop own (G (b.at (a.put o.dst (.agg #[v1,v2,v3,v4])) (.inRegion ops rest::kk)) cs) W1):
 Gw Tryz.prog main Z Stop own (G (b.at a (.inRegion ops (i::rest)::kk)) cs) W:=by
 refine yA ho hw hk λW1 hr=>?_
 have hb:W1.heap[bb]?=some (.cells #[v1,v2,v3,v4] e fr):=(hz.elim (hr.own _) (hr.ro _)).trans hc
 have c0:W1.cell? ⟨bb,0,none⟩=some v1:=by unfold World.cell?;simp only[hb];rfl
 have c1:W1.cell? ⟨bb,1,none⟩=some v2:=by unfold World.cell?;simp only[hb];rfl
 have c2:W1.cell? ⟨bb,2,none⟩=some v3:=by unfold World.cell?;simp only[hb];rfl
 have c3:W1.cell? ⟨bb,3,none⟩=some v4:=by unfold World.cell?;simp only[hb];rfl
 refine⟨.agg #[v1,v2,v3,v4],W1,by unfold execOp;simp only[hop,hx];simp[go_sem,c0,c1,c2,c3],qK.refl _, λev he=>?_,by rw[jB];exact hn W1 hr⟩;rw[jB]
 have:∃k:Nat,ev=⟨.cell ⟨bb,k,none⟩,false,false⟩:=by unfold execOp at he;simp only[hop,hx]at he;simp[go_sem,c0,c1,c2,c3]at he;rcases he with rfl|rfl|rfl|rfl<;>exact⟨_,rfl⟩
 obtain⟨k,rfl⟩:=this;exact⟨hnm,rfl,hz.elim .inl λz=>.inr (.inl ⟨z,rfl⟩)⟩
def Tn{p:Option Addr}{v0:Value}(ho:ops[i]?=some o)(hw:Region.wanted o (yielded ops a.tmps)=true)(hk:b.kind≠ .early)(hop:o.op=.store 75 x y)(hx:a.eval x=.pointer (some ad))(hy:a.eval y=.pointer p)(hnm:¬Z.mute)
 (hz:own ad.block) (hns:¬Z.sy ad.block) (hc:W.cell? ad=some v0) (hf:W.frozen? ad=false)
 (hn:∀W1,dM Z own W W1->Gw Tryz.prog main Z Stop own (G (b.at (a.put o.dst undef) (.inRegion ops rest::kk)) cs) (W1.setCell ad (.pointer p))):
 Gw Tryz.prog main Z Stop own (G (b.at a (.inRegion ops (i::rest)::kk)) cs) W:=
 yC ho hw hk hnm hz hns (λW1 hr=>by
  have hb:=hr.own _ hz;have hc1:W1.cell? ad=some v0:=by rw[<-hc];unfold World.cell?;rw[hb]
  have hf1:W1.frozen? ad=false:=by rw[<-hf];unfold World.frozen?;rw[hb]
  exact⟨by unfold execOp;simp only[hop,hx,hy];simp[go_sem,hc1,hf1],by unfold execOp;simp only[hop,hx,hy];simp[go_sem,hc1,hf1];rw[Go.events_store _ _ _ _ _ _ rfl];simp[hc1,hf1]⟩) hn
def Tp{fn:Fn}{f1 f2:Array Value}{v0:Value}(ho:ops[i]?=some o)(hw:Region.wanted o (yielded ops a.tmps)=true)(hk:b.kind≠ .early)(hop:o.op=.store 94 x y)(hx:a.eval x=.pointer (some ad))(hy:a.eval y=.func fn f1 f2)(hnm:¬Z.mute)
 (hz:own ad.block) (hns:¬Z.sy ad.block) (hc:W.cell? ad=some v0) (hf:W.frozen? ad=false)
 (hn:∀W1,dM Z own W W1->Gw Tryz.prog main Z Stop own (G (b.at (a.put o.dst undef) (.inRegion ops rest::kk)) cs) (W1.setCell ad (.func fn f1 f2))):
 Gw Tryz.prog main Z Stop own (G (b.at a (.inRegion ops (i::rest)::kk)) cs) W:=
 yC ho hw hk hnm hz hns (λW1 hr=>by
  have hb:=hr.own _ hz;have hc1:W1.cell? ad=some v0:=by rw[<-hc];unfold World.cell?;rw[hb]
  have hf1:W1.frozen? ad=false:=by rw[<-hf];unfold World.frozen?;rw[hb]
  exact⟨by unfold execOp;simp only[hop,hx,hy];simp[go_sem,hc1,hf1];rw[Go.run_store _ _ _ _ _ rfl];simp[go_sem,hc1,hf1],by unfold execOp;simp only[hop,hx,hy];simp[go_sem,hc1,hf1];rw[Go.events_store _ _ _ _ _ _ rfl];simp[hc1,hf1]⟩) hn
end
end
section
attribute [local instance] noSh gX
def l2:List FuncId:=[26,32,33,57,55,56,61,62,91,92,106,107,108,117]
def S2(g:FuncId):Bool:=l2.contains g
def aj6:l2.all (EK Tryz.prog S2 S2)=true:=by kernel_rfl
def Tq(A:Nat->Bool):kL Tryz.prog (FA S2 S2 (fe Tryz.prog S2 S2) A):=
 Mr (λg hg=>bF.1 aj6 g (by simpa[S2]using hg)) (λ_ h=>h) A
structure sj(As own:Nat->Prop)(W:World)(b:dO)(v:gJ):Prop where
 at_:fC W W.heap.size b v
 own:∀a,As a->own a
 blk:∀a,As a->∃c e fr,W.heap[a]?=some (.cells c e fr)∧∀x∈c,eF x=true∨∃p l cp,x=.slice p l cp∧∀q,p=some q->As q.block
 top:∀q,v.ah=some q∨v.ap=some q∨v.iT=some q∨v.ac=some q->As q.block
 deep:∀i s,b.steps[i]?=some s->∀q,(v.sv i).a1=some q∨(v.sv i).a2=some q->As q.block
section
variable {As own:Nat->Prop} {W:World} {b:dO} {v:gJ}
def sj.good(h:sj As own W b v)(hlt:∀a,own a->a<W.heap.size):(∀a o,As a->W.heap[a]?=some o->∃c e fr,o=.cells c e fr∧Z4 Tryz.prog S2 As W.heap.size c)∧
 (∀p l c,(∀q,p=some q->As q.block)->vs (FA S2 S2 (fe Tryz.prog S2 S2) (Bd (iL As W.heap.size) W.heap.size)) (.slice p l c)=true):=by
 classical
 have on:∀b,As b->Bd (iL As W.heap.size) W.heap.size b=true:= λb hb=>gH.2 ⟨by unfold iL;exact decide_eq_true (.inl hb),hlt b (h.own b hb)⟩
 have sl:∀p l c,(∀q,p=some q->As q.block)->vs (FA S2 S2 (fe Tryz.prog S2 S2) (Bd (iL As W.heap.size) W.heap.size)) (.slice p l c)=true:= λp l c hp=>by
  cases hA:p with
  |none=>simp
  |some a=>rw[gY,um];exact on a.block (hp a hA)
 refine⟨λa o ha ho=>?_,sl⟩;obtain⟨c,e,fr,h1,h2⟩:=h.blk a ha;rw[h1]at ho;cases ho;refine⟨_,_,_,rfl, λx hx=>?_⟩;rcases h2 x hx with h3|⟨p,l,cp,rfl,h3⟩
 .exact(iP (f:= λb=>b) h3).2
 .exact sl _ _ _ h3
def sj.val(h:sj As own W b v)(hlt:∀a,own a->a<W.heap.size):vs (FA S2 S2 (fe Tryz.prog S2 S2) (Bd (iL As W.heap.size) W.heap.size)) (dY b v)=true:=by
 obtain⟨_,sl⟩:=h.good hlt;unfold dY;rw[lV];intro x hx;simp only[aB,bD,ax,or_false]at hx;rcases hx with rfl|rfl|rfl|rfl
 .exact sl _ _ _ λq hq=>h.top q (.inl hq)
 .exact sl _ _ _ λq hq=>h.top q (.inr (.inl hq))
 .exact sl _ _ _ λq hq=>h.top q (.inr (.inr (.inl hq)))
 .exact sl _ _ _ λq hq=>h.top q (.inr (.inr (.inr hq)))
end
def vO{w w':World}{B B' k n:Nat}{A:Option Addr}{f:Nat->Nat->Value}{As:Nat->Prop}(h:Rd w B k A n f)(hA:∀q,A=some q->As q.block)(hc:∀b,As b->w'.heap[b]?=w.heap[b]?)(hB:B<=B'):Rd w' B' k A n f:= λhn=>by obtain⟨bb,off,e,h1,h2⟩:=h hn;exact⟨bb,off,e,aK h1 hB, λi j hi hj=>(fJ (hc _ (hA _ e)) _).trans (h2 i j hi hj)⟩
section
variable {main:Bool} {As own:Nat->Prop} {W:World} {b:dO} {v:gJ} {Stop:(Nat->Prop)->Goroutine->World->Prop} {fT:Frame} {K':List Frame}
def sj.kept{dD:Nat->Prop}{Z:fO}{W':World}(h:sj As own W b v)(hlt:∀a,own a->a<W.heap.size)(hk:Kept Z own W dD W'):sj As dD W' b v:=by
 obtain⟨h1,h2,h3,h4,h5⟩:=h;have hc:∀b,As b->W'.heap[b]?=W.heap[b]?:= λb hb=>hk.rely.own _ (h2 b hb)
 refine⟨⟨vO h1.dJ (λq e=>h4 q (.inl e)) hc hk.rely.size,vO h1.dz (λq e=>h4 q (.inr (.inl e))) hc hk.rely.size,vO h1.steps (λq e=>h4 q (.inr (.inr (.inl e)))) hc hk.rely.size, λi s e=>vO (h1.ins i s e) (λq e'=>h5 i s e q (.inl e')) hc hk.rely.size,
  λi s e=>vO (h1.outs i s e) (λq e'=>h5 i s e q (.inr e')) hc hk.rely.size,vO h1.dA (λq e=>h4 q (.inr (.inr (.inr e)))) hc hk.rely.size,h1.lh,h1.lp,h1.ls,h1.lc⟩, λa ha=>hk.sub _ (h2 a ha), λa ha=>?_,h4,h5⟩
 .obtain⟨c,e,fr,q1,q2⟩:=h3 a ha;exact⟨c,e,fr,(hk.rely.own _ (h2 a ha)).trans q1,q2⟩
def Zd(hb:sj As own W b v)(hlt:∀a,own a->a<W.heap.size)(ja:Tryz.prog.globals.size<W.heap.size)(hs:b.small)
 (lU:∀dD W',Kept Z0 own W dD W'->Gw Tryz.prog main Z0 Stop dD (G (fT.finish (.int .i64 (fG b))) K') W'):
 Gw Tryz.prog main Z0 Stop own (G (Frame.enter Tryz.prog 26 #[dY b v] .normal) (fT::K')) W:=by
 obtain⟨g1,_⟩:=hb.good hlt;refine rJ (S:=S2) (As:=As) (R:= λv _=>v=.int .i64 (fG b)) Tq gD ja (λa ha=>.inl (hb.own a ha)) g1 (λa ha=>⟨hlt a ha, λh=>h, λh=>h⟩) (λ_ h=>az h) (λ_ h=>az h) (λ_ _ h=>az h) (λh=>h) (g:=26) rfl ?_ (λw hsz hcell=>?_) λv w' f' dD W' hR hk _=>?_
 .intro x hx;simp only[aB,bD,ax,or_false]at hx;subst hx;exact hb.val hlt
 .have :=@Lo.wE gX w W.heap.size b v (hb.at_.keep λb o _=>hcell b o) (Nat.le_of_eq hsz.symm) hs;rw[zf]at this;exact this.mono λe w' h=>⟨_,h.1,rfl⟩
 .subst hR;rw[iC];exact lU dD W' hk
structure fy(own:Nat->Prop)(W:World)(bw:Nat)(ss:List eX)(n nd:Nat)(A:Option Addr)(cap:Nat):Prop where
 ow:own bw
 blk:∃e fr,W.heap[bw]?=some (.cells #[.slice A ss.length cap,.int .i64 (n:Int),.int .i64 (nd:Int)] e fr)
 at_:jG W W.heap.size bw ss n nd A cap
 str:∀a,A=some a->own a.block∧∃cur e fr,W.heap[a.block]?=some (.cells cur e fr)∧∀x∈cur,eF x=true
def aq7(hb:sj As own W b v)(hlt:∀a,own a->a<W.heap.size)(ja:Tryz.prog.globals.size<W.heap.size)(hg:b.good){hand:Int}(hh: -1<=hand∧hand<=64)
 (lU:∀dD W' bw A cap,Kept Z0 own W dD W'->fy dD W' bw (fA b hand) b.steps.length (dZ b hand) A cap->W.heap.size<=bw->(∀a,A=some a->W.heap.size<=a.block)->Gw Tryz.prog main Z0 Stop dD (G (fT.finish (.pointer (some ⟨bw,0,none⟩))) K') W'):
 Gw Tryz.prog main Z0 Stop own (G (Frame.enter Tryz.prog 33 #[dY b v,.int .i64 hand] .normal) (fT::K')) W:=by
 obtain⟨g1,_⟩:=hb.good hlt;refine rJ (S:=S2) (As:=As) (R:= λx w'=>∃bw y,x=.pointer (some ⟨bw,0,none⟩)∧W.heap.size<=bw∧bw<w'.heap.size∧fQ w' bw W.heap.size b.steps.length (dZ b hand) (fA b hand) y) Tq gD ja (λa ha=>.inl (hb.own a ha)) g1 (λa ha=>⟨hlt a ha, λh=>h, λh=>h⟩) (λ_ h=>az h) (λ_ h=>az h) (λ_ _ h=>az h) (λh=>h) (g:=33) rfl ?_ (λw hsz hcell=>?_) λx w' f' dD W' hR hk hm=>?_
 .intro x hx;simp only[aB,bD,ax,or_false]at hx;rcases hx with rfl|rfl
  .exact hb.val hlt
  .simp
 .have :=@Lo.ER gX w W.heap.size b v (hb.at_.keep λb o _=>hcell b o) (Nat.le_of_eq hsz.symm) hg hand hh;rw[zf]at this;refine this.mono λe w' h=>?_
  obtain⟨bw,y,h1,h2,h3,h4,_⟩:=h;rw[hsz]at h2 h4;exact⟨_,h1,bw,y,rfl,h2,h3,h4⟩
 .obtain⟨bw,y,rfl,h1,h2,h3⟩:=hR;obtain⟨A,cap,rfl,hat⟩:=h3.at (MN b hand hg) (MR b hand hg);obtain⟨q1,q2,q3⟩:=hm.ge bw h1 h2;have e0:rv f' (.pointer (some ⟨bw,0,none⟩))=.pointer (some ⟨f' bw,0,none⟩):=by rw[dX];rfl
  rw[e0];obtain⟨fr',b1⟩:=hm.blk _ _ _ _ h1 h3.blk;have b2:W'.heap[f' bw]?=some (.cells #[.slice (A.map (ra f')) (fA b hand).length cap,.int .i64 (b.steps.length:Int),.int .i64 (dZ b hand:Int)] 100 fr'):=by rw[b1];simp
  have hge:∀a,A=some a->W.heap.size<=a.block∧a.block<w'.heap.size∧∃cur e,w'.heap[a.block]?=some (.cells cur e)∧∀x∈cur,eF x=true:= λa ha=>by have hp:=h3.pl;have hr:=h3.row;rw[ha]at hp hr;obtain⟨l1,l2⟩:=hr.lt a.block rfl;exact⟨l1,l2,hp a.block rfl⟩
  refine lU dD W' (f' bw) (A.map (ra f')) cap hk ⟨q3,⟨_,_,b2⟩,⟨q2,?_,?_,?_, λhn=>?_,hat.ok,hat.len⟩, λa ha=>?_⟩ q1 λa ha=>?_
  .rw[hm.cell _ _ _ h1 hat.c0];simp
  .rw[hm.cell _ _ _ h1 hat.c1];simp
  .rw[hm.cell _ _ _ h1 hat.c2];simp
  .obtain⟨bb,off,e,p1,p2⟩:=hat.rd hn;subst e;obtain⟨k1,k2,_⟩:=hge _ rfl;refine⟨f' bb,off,rfl,(hm.ge _ k1 k2).2.1, λi j hi hj=>?_⟩;rw[hm.cell _ _ _ k1 (p2 i j hi hj)];unfold sU
   match j,hj with
   |0,_=>rw[show((((fA b hand)[i]?).getD ⟨0,0,0,0⟩).cells 0)=.int .i64 (((fA b hand)[i]?).getD ⟨0,0,0,0⟩).lo from rfl,iC]
   |1,_=>rw[show((((fA b hand)[i]?).getD ⟨0,0,0,0⟩).cells 1)=.int .i64 (((fA b hand)[i]?).getD ⟨0,0,0,0⟩).hi from rfl,iC]
   |2,_=>rw[show((((fA b hand)[i]?).getD ⟨0,0,0,0⟩).cells 2)=.int .i64 ((((fA b hand)[i]?).getD ⟨0,0,0,0⟩).fr:Int)from rfl,iC]
   |3,_=>rw[show((((fA b hand)[i]?).getD ⟨0,0,0,0⟩).cells 3)=.int .i64 ((((fA b hand)[i]?).getD ⟨0,0,0,0⟩).to:Int)from rfl,iC]
  .cases hA:A with
   |none=>rw[hA]at ha;cases ha
   |some a0=>
    rw[hA]at ha;have ha:some (ra f' a0)=some a:=ha;cases ha;obtain⟨l1,l2,cur,e,c1,c2⟩:=hge a0 hA;obtain⟨fr',c3⟩:=hm.blk _ _ _ _ l1 c1;rw[EL c2]at c3;exact⟨(hm.ge _ l1 l2).2.2,cur,e,fr',c3,c2⟩
  .cases hA:A with
   |none=>rw[hA]at ha;cases ha
   |some a0=>
    rw[hA]at ha;have ha:some (ra f' a0)=some a:=ha;cases ha;obtain⟨l1,l2,_⟩:=hge a0 hA;exact(hm.ge _ l1 l2).1
end
end
end Go.Proofs.Tryz
namespace Go.Proofs.Tryz
open Go Go.RowKit cS
section
attribute [local instance] noSh
def Nt{P:Program}{q:FuncId}{fn:Func}(h:P.funcs[q]?=some fn)(c:Code):(P.stub q c).funcs[q]?=some { fn with body:=some c }:=by
 show(P.funcs.modify q _)[q]?=_
 rw[bz,aj rfl,h];rfl
def zg(P:Program){q g:FuncId}(c:Code)(h:g≠q):(P.stub q c).funcs[g]?=P.funcs[g]?:=by
 show(P.funcs.modify q _)[g]?=_
 rw[bz,aa (λx=>h x.symm)]
def DN(P:Program)(q:FuncId)(c:Code)(h:iA P=true):iA (P.stub q c)=true:=h
@[reducible] noncomputable def Nu:Lo.St:=⟨Tryz.f5.body.getD .skip,.refuse ""⟩
noncomputable def ji:Program:=Tryz.prog.stub 19 (.refuse "")
def Tu: @Lo.prog Nu=ji:=by rw[@Lo.iB Nu];have h5:Tryz.prog.stub 5 (Tryz.f5.body.getD .skip)=Tryz.prog:=oO Tryz.func5 (by unfold Tryz.f5;rfl);show(Tryz.prog.stub 5 (Tryz.f5.body.getD .skip)).stub 19 (.refuse "")=ji;rw[h5];rfl
noncomputable def Ze:Func:={ Tryz.f19 with body:=some (.refuse "") }
def Nv:ji.funcs[19]?=some Ze:=by unfold ji Ze;exact Nt Tryz.func19 _
def Fh(P:Program)(q:FuncId)(c c':Code):(P.stub q c).stub q c'=P.stub q c':=by
 unfold Program.stub;congr 1;apply Array.ext_getElem?;intro i;rw[bz,bz,bz]
 by_cases h:q=i
 .rw[aj h,aj h,aj h];cases P.funcs[i]?<;>rfl
 .rw[aa h,aa h,aa h]
def Tv:cS.Alike ji Tryz.prog:=by
 have e:Tryz.prog=ji.stub 19 (Tryz.f19.body.getD .skip):=by unfold ji;rw[Fh];exact(oO Tryz.func19 (by unfold Tryz.f19;rfl)).symm
 rw[e];exact cS.Alike.stub _ _ _
def aj7(g:FuncId)(h:Tryz.prog.funcs[g]?≠ji.funcs[g]?):g=19:=by
 by_cases e:g=19
 .exact e
 .exfalso;refine h ?_
  unfold ji;exact(zg Tryz.prog _ e).symm
def Tw(S:FuncId->Bool):Ar ji Tryz.prog S:=FX (why:= "") Nv rfl λg _ hne=>aj7 g hne
def Tx:iA ji=true:=by unfold ji;exact DN _ _ _ gD
end
end Go.Proofs.Tryz
namespace Go.Proofs.Tryz
open Go Go.Conc Go.ConcN Go.ConcM Go.RowKit Go.Conc.Lib Go.ConcR.Gen cS
section
attribute [local instance] noSh gX
noncomputable def LP:Code:=(fH lQ).getD .skip
def JC:Tryz.f19.body=some lQ:=by unfold lQ Tryz.f19;rfl
def Ty:(Tryz.f26.name== "runtime.NumGoroutine")=false:=by kernel_rfl
def Zf:(Tryz.f33.name== "runtime.NumGoroutine")=false:=by kernel_rfl
def Tz:Tryz.f26.body=some (Tryz.f26.body.getD .skip):=by unfold Tryz.f26;rfl
def Zg:Tryz.f33.body=some (Tryz.f33.body.getD .skip):=by unfold Tryz.f33;rfl
structure Sn(dR:Nat->Prop)(W0:World)(L:List (Nat×Obj))(own:Nat->Prop)(W:World):Prop where
 kept:Kept Z0 dR W0 own W
 lt:∀b,own b->b<W.heap.size
 has:∀p∈L,own p.1∧W0.heap.size<=p.1∧W.heap[p.1]?=some p.2
 nd:(L.map Prod.fst).Nodup
section
variable {dR own dD:Nat->Prop} {W0 W W1:World} {L:List (Nat×Obj)}
def Sn.start(h:∀b,dR b->b<W0.heap.size):Sn dR W0 [] dR W0:=⟨⟨dM.refl _, λ_ h=>h, λ_ h=>.inl h⟩,h, λ_ h=>(by cases h),List.nodup_nil⟩
def Sn.rely(h:Sn dR W0 L own W)(hr:dM Z0 own W W1):Sn dR W0 L own W1:=
 ⟨⟨h.kept.rely.trans ⟨hr.tape,hr.out,hr.os,hr.size, λb hb=>hr.own b (h.kept.sub b hb),hr.ro,hr.sy,hr.cl⟩,h.kept.sub, λb hb=>(h.kept.new b hb).imp id λx=>⟨x.1,aK x.2 hr.size⟩⟩,
  λb hb=>aK (h.lt b hb) hr.size, λp hp=>⟨(h.has p hp).1,(h.has p hp).2.1,(hr.own _ (h.has p hp).1).trans (h.has p hp).2.2⟩,h.nd⟩
def Sn.push(h:Sn dR W0 L own W)(o:Obj):Sn dR W0 ((W.heap.size,o)::L) (λc=>own c∨c=W.heap.size) { W with heap:=W.heap.push o }:=by
 have hold:∀c,c<W.heap.size->(W.heap.push o)[c]?=W.heap[c]?:= λc hc=>by rw[Array.getElem?_push_lt hc,aW hc]
 have hs:=h.kept.rely.size;refine⟨⟨h.kept.rely.trans ⟨rfl,rfl,OsLater.refl _,by simp, λb hb=>hold b (h.lt b (h.kept.sub b hb)), λ_ x=>az x, λ_ x=>az x, λ_ _ x=>az x⟩, λb hb=>.inl (h.kept.sub b hb), λb hb=>?_⟩, λb hb=>?_, λp hp=>?_,?_⟩
 .rcases hb with hb|rfl
  .exact(h.kept.new b hb).imp id λx=>⟨x.1,by simp;omega⟩
  .exact .inr ⟨hs,by simp⟩
 .simp only[Array.size_push];rcases hb with hb|rfl
  .have :=h.lt b hb;omega
  .omega
 .rcases bD.1 hp with rfl|hp
  .exact⟨.inr rfl,hs,by simp⟩
  .obtain⟨a,b,c⟩:=h.has p hp;exact⟨.inl a,b,(hold _ (h.lt _ a)).trans c⟩
 .simp only[aC,List.nodup_cons];refine⟨λhx=>?_,h.nd⟩;obtain⟨p,hp,e⟩:=List.mem_map.1 hx;have :=h.lt _ (h.has p hp).1;omega
def Sn.call(h:Sn dR W0 L own W)(hk:Kept Z0 own W dD W1):Sn dR W0 L dD W1:=
 ⟨⟨h.kept.rely.trans ⟨hk.rely.tape,hk.rely.out,hk.rely.os,hk.rely.size, λb hb=>hk.rely.own b (h.kept.sub b hb),hk.rely.ro,hk.rely.sy,hk.rely.cl⟩, λb hb=>hk.sub b (h.kept.sub b hb), λb hb=>by
   have :=h.kept.rely.size;rcases hk.new b hb with x|x
   .exact(h.kept.new b x).imp id λy=>⟨y.1,aK y.2 hk.rely.size⟩
   .exact .inr ⟨by omega,x.2⟩⟩,
  λb hb=>by
   rcases hk.new b hb with x|x
   .exact aK (h.lt b x) hk.rely.size
   .exact x.2, λp hp=>⟨hk.sub _ (h.has p hp).1,(h.has p hp).2.1,(hk.rely.own _ (h.has p hp).1).trans (h.has p hp).2.2⟩,h.nd⟩
def Sn.add(h:Sn dR W0 L own W){b:Nat}{o:Obj}(h1:own b)(h2:W0.heap.size<=b)(h3:W.heap[b]?=some o)(h4:∀p∈L,p.1≠b):Sn dR W0 ((b,o)::L) own W:=
 ⟨h.kept,h.lt, λp hp=>by
   rcases bD.1 hp with rfl|hp
   .exact⟨h1,h2,h3⟩
   .exact h.has p hp,by
   simp only[aC,List.nodup_cons];refine⟨λhx=>?_,h.nd⟩;obtain⟨p,hp,e⟩:=List.mem_map.1 hx;exact h4 p hp e⟩
def Sn.set{b:Nat}{v0:Value}{e:TypeId}(h:Sn dR W0 ((b,.cells #[v0] e)::L) own W)(hb0:∀x,dR x->x<W0.heap.size)(v:Value):Sn dR W0 ((b,.cells #[v] e)::L) own (W.setCell ⟨b,0,none⟩ v):=by
 have hb:=h.has _ (aP ..);have ha:=Go.Conc.aside_setCell W ⟨b,0,none⟩ v;refine⟨⟨h.kept.rely.trans ⟨ha.tape,ha.output,by rw[ha.os];exact OsLater.refl _,Nat.le_of_eq ha.size.symm, λx hx=>ha.block x λe=>?_, λ_ x=>az x, λ_ x=>az x, λ_ _ x=>az x⟩,h.kept.sub, λx hx=>(h.kept.new x hx).imp id λy=>⟨y.1,by rw[ha.size];exact y.2⟩⟩, λx hx=>by rw[ha.size];exact h.lt x hx, λp hp=>?_,h.nd⟩
 .have :=hb0 x hx;have :=hb.2.1;have e:x=b:=e;omega
 .rcases bD.1 hp with rfl|hp'
  .refine⟨hb.1,hb.2.1,?_⟩;show(W.setCell ⟨b,0,none⟩ v).heap[b]?=_
   rw[heap_setCell_same W b 0 _ e v hb.2.2];rfl
  .obtain⟨a,c,d⟩:=h.has p (aQ _ hp');refine⟨a,c,(ha.block _ λe=>?_).trans d⟩;have hn:=h.nd;simp only[aC,List.nodup_cons]at hn;have e:p.1=b:=e;exact hn.1 (e ▸ List.mem_map_of_mem hp')
def Sn.mine(h:Sn dR W0 L own W){b:Nat}{o:Obj}(hm:(b,o)∈L):own b:=(h.has _ hm).1
def Sn.cell(h:Sn dR W0 L own W){b:Nat}{v:Value}{e:TypeId}(hm:(b,Obj.cells #[v] e)∈L):W.cell? ⟨b,0,none⟩=some v:=C1.cell ⟨e,(h.has _ hm).2.2⟩
def Sn.free(h:Sn dR W0 L own W){b:Nat}{v:Value}{e:TypeId}(hm:(b,Obj.cells #[v] e)∈L):W.frozen? ⟨b,0,none⟩=false:=C1.free ⟨e,(h.has _ hm).2.2⟩
end
section
variable {main:Bool} {dR own:Nat->Prop} {W0:World} {L:List (Nat×Obj)} {Stop:(Nat->Prop)->Goroutine->World->Prop}
variable {b:Frame} {a:Act} {kk:List Item} {cs:List Frame} {W:World} {ops:Array Oper} {i:Nat} {rest:List Nat} {o:Oper} {x y:Operand} {ad:Addr}
def VY{v1 v2 v3 v4:Value}(S:Sn dR W0 L own W)(ho:ops[i]?=some o)(hw:Region.wanted o (yielded ops a.tmps)=true)(hk:b.kind≠ .early)(hop:o.op=.box 40 x)(hx:a.eval x=.agg #[v1,v2,v3,v4])
 (hn:∀n dD W',Sn dR W0 ((n,.cells #[v1,v2,v3,v4] 40)::L) dD W'->Gw Tryz.prog main Z0 Stop dD (G (b.at (a.put o.dst (.pointer (some ⟨n,0,none⟩))) (.inRegion ops rest::kk)) cs) W'):
 Gw Tryz.prog main Z0 Stop own (G (b.at a (.inRegion ops (i::rest)::kk)) cs) W:=
 VU ho hw hk hop hx (λh=>h) (λ_ h=>az h) λ_ hr=>hn _ _ _ ((S.rely hr).push _)
def VZ(S:Sn dR W0 L own W)(ho:ops[i]?=some o)(hw:Region.wanted o (yielded ops a.tmps)=true)(hk:b.kind≠ .early)(hop:o.op=.alloc 22)
 (hn:∀n dD W',Sn dR W0 ((n,.cells #[.slice none 0 0] 22)::L) dD W'->Gw Tryz.prog main Z0 Stop dD (G (b.at (a.put o.dst (.pointer (some ⟨n,0,none⟩))) (.inRegion ops rest::kk)) cs) W'):
 Gw Tryz.prog main Z0 Stop own (G (b.at a (.inRegion ops (i::rest)::kk)) cs) W:=
 VV ho hw hk hop (λh=>h) (λ_ h=>az h) λ_ hr=>hn _ _ _ ((S.rely hr).push _)
def Fj(S:Sn dR W0 L own W)(ho:ops[i]?=some o)(hw:Region.wanted o (yielded ops a.tmps)=true)(hk:b.kind≠ .early)(hop:o.op=.alloc 4)
 (hn:∀n dD W',Sn dR W0 ((n,.cells #[.bool false] 4)::L) dD W'->Gw Tryz.prog main Z0 Stop dD (G (b.at (a.put o.dst (.pointer (some ⟨n,0,none⟩))) (.inRegion ops rest::kk)) cs) W'):
 Gw Tryz.prog main Z0 Stop own (G (b.at a (.inRegion ops (i::rest)::kk)) cs) W:=
 Fg ho hw hk hop (λh=>h) (λ_ h=>az h) λ_ hr=>hn _ _ _ ((S.rely hr).push _)
def TA(S:Sn dR W0 L own W)(ho:ops[i]?=some o)(hw:Region.wanted o (yielded ops a.tmps)=true)(hk:b.kind≠ .early)(hop:o.op=.alloc 75)
 (hn:∀n dD W',Sn dR W0 ((n,.cells #[.pointer none] 75)::L) dD W'->Gw Tryz.prog main Z0 Stop dD (G (b.at (a.put o.dst (.pointer (some ⟨n,0,none⟩))) (.inRegion ops rest::kk)) cs) W'):
 Gw Tryz.prog main Z0 Stop own (G (b.at a (.inRegion ops (i::rest)::kk)) cs) W:=
 Ti ho hw hk hop (λh=>h) (λ_ h=>az h) λ_ hr=>hn _ _ _ ((S.rely hr).push _)
def V3(S:Sn dR W0 L own W)(ho:ops[i]?=some o)(hw:Region.wanted o (yielded ops a.tmps)=true)(hk:b.kind≠ .early)(hop:o.op=.alloc 83)
 (hn:∀n dD W',Sn dR W0 ((n,.cells #[.int .i32 0,.int .u32 0] 83)::L) dD W'->Gw Tryz.prog main Z0 Stop dD (G (b.at (a.put o.dst (.pointer (some ⟨n,0,none⟩))) (.inRegion ops rest::kk)) cs) W'):
 Gw Tryz.prog main Z0 Stop own (G (b.at a (.inRegion ops (i::rest)::kk)) cs) W:=
 VW ho hw hk hop (λh=>h) (λ_ h=>az h) λ_ hr=>hn _ _ _ ((S.rely hr).push _)
def V4(S:Sn dR W0 L own W)(ho:ops[i]?=some o)(hw:Region.wanted o (yielded ops a.tmps)=true)(hk:b.kind≠ .early)(hop:o.op=.alloc 90)
 (hn:∀n dD W',Sn dR W0 ((n,.cells #[.int .u64 0,.int .u32 0] 90)::L) dD W'->Gw Tryz.prog main Z0 Stop dD (G (b.at (a.put o.dst (.pointer (some ⟨n,0,none⟩))) (.inRegion ops rest::kk)) cs) W'):
 Gw Tryz.prog main Z0 Stop own (G (b.at a (.inRegion ops (i::rest)::kk)) cs) W:=
 VX ho hw hk hop (λh=>h) (λ_ h=>az h) λ_ hr=>hn _ _ _ ((S.rely hr).push _)
def TB(S:Sn dR W0 L own W)(ho:ops[i]?=some o)(hw:Region.wanted o (yielded ops a.tmps)=true)(hk:b.kind≠ .early)(hop:o.op=.alloc 94)
 (hn:∀n dD W',Sn dR W0 ((n,.cells #[.nilFunc] 94)::L) dD W'->Gw Tryz.prog main Z0 Stop dD (G (b.at (a.put o.dst (.pointer (some ⟨n,0,none⟩))) (.inRegion ops rest::kk)) cs) W'):
 Gw Tryz.prog main Z0 Stop own (G (b.at a (.inRegion ops (i::rest)::kk)) cs) W:=
 Tk ho hw hk hop (λh=>h) (λ_ h=>az h) λ_ hr=>hn _ _ _ ((S.rely hr).push _)
def Zh(S:Sn dR W0 L own W)(ho:ops[i]?=some o)(hw:Region.wanted o (yielded ops a.tmps)=true)(hk:b.kind≠ .early)(hop:o.op=.buildSlice 95 2 #[(0,.const (.bool false)),(1,.const (.bool true))])
 (hn:∀n dD W',Sn dR W0 ((n,.cells #[.bool false,.bool true] 4)::L) dD W'->Gw Tryz.prog main Z0 Stop dD (G (b.at (a.put o.dst (.slice (some ⟨n,0,none⟩) 2 2)) (.inRegion ops rest::kk)) cs) W'):
 Gw Tryz.prog main Z0 Stop own (G (b.at a (.inRegion ops (i::rest)::kk)) cs) W:=
 Zc ho hw hk hop (λh=>h) (λ_ h=>az h) λ_ hr=>hn _ _ _ ((S.rely hr).push _)
def TC{v1 v2 v3 v4:Value}{e:TypeId}{bb:Nat}(S:Sn dR W0 L own W)(ho:ops[i]?=some o)(hw:Region.wanted o (yielded ops a.tmps)=true)(hk:b.kind≠ .early)(hop:o.op=.load 40 x)(hx:a.eval x=.pointer (some ⟨bb,0,none⟩))(hm:(bb,Obj.cells #[v1,v2,v3,v4] e)∈L)
 (hn:∀W',Sn dR W0 L own W'->Gw Tryz.prog main Z0 Stop own (G (b.at (a.put o.dst (.agg #[v1,v2,v3,v4])) (.inRegion ops rest::kk)) cs) W'):
 Gw Tryz.prog main Z0 Stop own (G (b.at a (.inRegion ops (i::rest)::kk)) cs) W:=
 Tm ho hw hk hop hx (λh=>h) (.inl (S.mine hm)) (S.has _ hm).2.2 λ_ hr=>hn _ (S.rely hr)
def TD{p:Option Addr}{v0:Value}{e:TypeId}{bb:Nat}(S:Sn dR W0 ((bb,.cells #[v0] e)::L) own W)(hb0:∀x,dR x->x<W0.heap.size)(ho:ops[i]?=some o)(hw:Region.wanted o (yielded ops a.tmps)=true)(hk:b.kind≠ .early)(hop:o.op=.store 75 x y)(hx:a.eval x=.pointer (some ⟨bb,0,none⟩))(hy:a.eval y=.pointer p)
 (hn:∀W',Sn dR W0 ((bb,.cells #[.pointer p] e)::L) own W'->Gw Tryz.prog main Z0 Stop own (G (b.at (a.put o.dst undef) (.inRegion ops rest::kk)) cs) W'):
 Gw Tryz.prog main Z0 Stop own (G (b.at a (.inRegion ops (i::rest)::kk)) cs) W:=
 Tn ho hw hk hop hx hy (λh=>h) (S.mine (aP ..)) (λh=>h) (S.cell (aP ..)) (S.free (aP ..)) λ_ hr=>hn _ ((S.rely hr).set hb0 _)
def TE{fn:Fn}{f1 f2:Array Value}{v0:Value}{e:TypeId}{bb:Nat}(S:Sn dR W0 ((bb,.cells #[v0] e)::L) own W)(hb0:∀x,dR x->x<W0.heap.size)(ho:ops[i]?=some o)(hw:Region.wanted o (yielded ops a.tmps)=true)(hk:b.kind≠ .early)(hop:o.op=.store 94 x y)(hx:a.eval x=.pointer (some ⟨bb,0,none⟩))(hy:a.eval y=.func fn f1 f2)
 (hn:∀W',Sn dR W0 ((bb,.cells #[.func fn f1 f2] e)::L) own W'->Gw Tryz.prog main Z0 Stop own (G (b.at (a.put o.dst undef) (.inRegion ops rest::kk)) cs) W'):
 Gw Tryz.prog main Z0 Stop own (G (b.at a (.inRegion ops (i::rest)::kk)) cs) W:=
 Tp ho hw hk hop hx hy (λh=>h) (S.mine (aP ..)) (λh=>h) (S.cell (aP ..)) (S.free (aP ..)) λ_ hr=>hn _ ((S.rely hr).set hb0 _)
def Nw{f:FuncId}{fn:Func}{c0:Code}{args:Array Operand}{ats:Array TypeId}(S:Sn dR W0 L own W)(ho:ops[i]?=some o)(hw:Region.wanted o (yielded ops a.tmps)=true)(hk:b.kind≠ .early)(hop:o.op=.call { callee:=.value (.func f),args,argTypes:=ats })
 (hf:Tryz.prog.funcs[f]?=some fn) (hname:(fn.name== "runtime.NumGoroutine")=false) (hb:fn.body=some c0)
 (hn:∀W',Sn dR W0 L own W'->Gw Tryz.prog main Z0 Stop own (G (Frame.enter Tryz.prog f (args.map a.eval) .normal) (b.at a (.inRegion ops (i::rest)::kk)::cs)) W'):
 Gw Tryz.prog main Z0 Stop own (G (b.at a (.inRegion ops (i::rest)::kk)) cs) W:=
 nK ho hw hk hop hf hname hb λ_ hr=>hn _ (S.rely hr)
end
section
variable {As dR own:Nat->Prop} {W0 W:World} {b:dO} {v:gJ} {Stop:(Nat->Prop)->Goroutine->World->Prop} {fT:Frame} {K':List Frame}
noncomputable def RP:Code:=(fE 14 lQ).getD .skip
noncomputable def JD(fT:Frame)(K':List Frame)(bs bm bf cw Mu Wg cb sb j:Nat)(j0 j1 j6 j11 j12 j13 Zi Zj M9 Na Nb Nc Nf Ng Nh Ni Nj Nk Nl Nn Np Nq Nr:Value):Goroutine:=
 G ((base 19).at ⟨#[j0,j1,.pointer (some ⟨bs,0,none⟩),.pointer (some ⟨bm,0,none⟩),.pointer (some ⟨bf,0,none⟩),.int .i64 0,j6,.pointer (some ⟨cw,0,none⟩),.pointer (some ⟨Mu,0,none⟩),.pointer (some ⟨Wg,0,none⟩),.pointer (some ⟨cb,0,none⟩),j11,j12,j13,Zi,Zj,M9,Na,Nb,Nc,Nf,.slice (some ⟨sb,0,none⟩) 2 2,.int .i64 2,.int .i64 (j:Int),Ng,Nh,Ni,Nj,Nk,Nl,Nn,Np,Nq,Nr],[]⟩ [.code LP,.inLoop LP,.inBlock 0,.code RP]) (fT::K')
def xG(fT:Frame)(K':List Frame)(bs bm bf cw Mu Wg cb sb j:Nat)(Q:Goroutine->Prop):Prop:=
 ∀j0 j1 j6 j11 j12 j13 Zi Zj M9 Na Nb Nc Nf Ng Nh Ni Nj Nk Nl Nn Np Nq Nr,Q (JD fT K' bs bm bf cw Mu Wg cb sb j j0 j1 j6 j11 j12 j13 Zi Zj M9 Na Nb Nc Nf Ng Nh Ni Nj Nk Nl Nn Np Nq Nr)
def kR(b:dO)(v:gJ)(bx bs bm bf cw Mu Wg cb sb bw:Nat)(A:Option Addr)(cap:Nat)(e:TypeId)(fr:Nat×Nat)(sL:List (Nat×Obj)):List (Nat×Obj):=
 [(sb,.cells #[.bool false,.bool true] 4),(cb,.cells #[.func (.func 35) #[] #[.pointer (some ⟨bs,0,none⟩),.pointer (some ⟨bf,0,none⟩),.pointer (some ⟨bm,0,none⟩)]] 94),(Wg,.cells #[.int .u64 0,.int .u32 0] 90),(Mu,.cells #[.int .i32 0,.int .u32 0] 83),(cw,.cells #[.pointer (some ⟨bw,0,none⟩)] 75),
   (bw,.cells #[.slice A (fA b (-1)).length cap,.int .i64 (b.steps.length:Int),.int .i64 (dZ b (-1):Int)] e fr)]++sL++ [(bf,.cells #[.bool false] 4),(bm,.cells #[.bool false] 4),(bs,.cells #[.slice none 0 0] 22),(bx,.cells #[.slice v.ah b.dJ.length v.ch,.slice v.ap b.dz.length v.cp,.slice v.iT b.steps.length v.cs,.slice v.ac b.dA.length v.cc] 40)]
structure lA(dR:Nat->Prop)(W0:World)(b:dO)(v:gJ):Prop where
 check:∀(own:Nat->Prop)(W:World)(Stop:(Nat->Prop)->Goroutine->World->Prop)(fT:Frame)(K':List Frame),Kept Z0 dR W0 own W->(∀a,own a->a<W.heap.size)->(∀dD W',Kept Z0 own W dD W'->Gw Tryz.prog true Z0 Stop dD (G (fT.finish (.int .i64 0)) K') W')->
  Gw Tryz.prog true Z0 Stop own (G (Frame.enter Tryz.prog 26 #[dY b v] .normal) (fT::K')) W
 web:∀(own:Nat->Prop)(W:World)(Stop:(Nat->Prop)->Goroutine->World->Prop)(fT:Frame)(K':List Frame),Kept Z0 dR W0 own W->(∀a,own a->a<W.heap.size)->
  (∀dD W' bw A cap,Kept Z0 own W dD W'->fy dD W' bw (fA b (-1)) b.steps.length (dZ b (-1)) A cap->W.heap.size<=bw->(∀a,A=some a->W.heap.size<=a.block)->Gw Tryz.prog true Z0 Stop dD (G (fT.finish (.pointer (some ⟨bw,0,none⟩))) K') W')->
  Gw Tryz.prog true Z0 Stop own (G (Frame.enter Tryz.prog 33 #[dY b v,.int .i64 (-1)] .normal) (fT::K')) W
def sj.p(hb:sj As dR W0 b v)(hlt:∀a,dR a->a<W0.heap.size)(ja:Tryz.prog.globals.size<W0.heap.size)(hs:b.small)(hc0:fG b=0):lA dR W0 b v:=
 ⟨λown W Stop fT K' hk hl hr=>Zd (hb.kept hlt hk) hl (aK ja hk.rely.size) hs (by rw[hc0];exact hr), λown W Stop fT K' hk hl hr=>aq7 (hb.kept hlt hk) hl (aK ja hk.rely.size) (lM hs hc0) (by omega) hr⟩
def aq8(hb:lA dR W0 b v)(hlt:∀a,dR a->a<W0.heap.size)
 (hnext:∀bx bs bm bf cw Mu Wg cb sb bw A cap e fr sL own W,Sn dR W0 (kR b v bx bs bm bf cw Mu Wg cb sb bw A cap e fr sL) own W->jG W W.heap.size bw (fA b (-1)) b.steps.length (dZ b (-1)) A cap->(∀a,A=some a->∃cur e fr,(a.block,.cells cur e fr)∈sL∧∀x∈cur,eF x=true)->
   ∀w,dM Z0 own W w->xG fT K' bs bm bf cw Mu Wg cb sb 0 λg=>Gw Tryz.prog true Z0 Stop own g w):
 Gw Tryz.prog true Z0 Stop dR (G (Frame.enter Tryz.prog 19 #[dY b v] .normal) (fT::K')) W0:=by
 have S:Sn dR W0 [] dR W0:=Sn.start hlt;have HN:=dw hnext;clear hnext;have HB:=dw hb;clear hb;rw[enter_at _ Tryz.func19 JC];unfold dY
 walk_nrmf Tryz.f19
 simp only[lQ,Tryz.f19,ak];have hF:dM Z0 dR W0 W0:=dM.refl _;refine dG (n:=60) ?_
 repeat w_nl eH
 refine cz λqa2 qa0=>?_
 replace S:=S.rely (eH hF qa0);clear hF qa0;refine VY (v1:=.slice v.ah b.dJ.length v.ch) (v2:=.slice v.ap b.dz.length v.cp) (v3:=.slice v.iT b.steps.length v.cs) (v4:=.slice v.ac b.dA.length v.cc) (o:=?_) (x:=?_) S ?_ ?_ ?_ ?_ ?_ ?_
 rotate_left 2
 iterate 2 rfl
 .k_ne
 iterate 2 rfl
 clear S;intro bx mD W1 S;walk_nrm;refine VZ (o:=?_) S ?_ ?_ ?_ ?_ ?_
 rotate_left 1
 iterate 2 rfl
 .k_ne
 iterate 1 rfl
 clear S;intro bs mD W1 S;walk_nrm;refine Fj (o:=?_) S ?_ ?_ ?_ ?_ ?_
 rotate_left 1
 iterate 2 rfl
 .k_ne
 iterate 1 rfl
 clear S;intro bm mD W1 S;walk_nrm;refine Fj (o:=?_) S ?_ ?_ ?_ ?_ ?_
 rotate_left 1
 iterate 2 rfl
 .k_ne
 iterate 1 rfl
 clear S;intro bf mD W1 S;walk_nrm;have hF:dM Z0 mD W1 W1:=dM.refl _;refine dG (n:=60) ?_
 repeat w_nl eH
 refine cz λqa2 qa0=>?_
 replace S:=S.rely (eH hF qa0);clear hF qa0;refine TC (v1:=.slice v.ah b.dJ.length v.ch) (v2:=.slice v.ap b.dz.length v.cp) (v3:=.slice v.iT b.steps.length v.cs) (v4:=.slice v.ac b.dA.length v.cc) (o:=?_) (x:=?_) (bb:=bx) (e:=40) S ?_ ?_ ?_ ?_ ?_ (by simp) ?_
 rotate_left 2
 iterate 2 rfl
 .k_ne
 iterate 2 rfl
 clear S;intro W1 S;walk_nrm;refine Nw (o:=?_) (args:=?_) (ats:=?_) S ?_ ?_ ?_ ?_ Tryz.func26 Ty Tz ?_
 rotate_left 3
 iterate 2 rfl
 .k_ne
 .rfl
 clear S;intro W1 S;walk_nrm;refine HB.out.check _ _ _ _ _ S.kept S.lt λxC W2 hk=>?_
 replace S:=S.call hk;clear hk mD W1;rw[Frame.finish_at];revert xC W2;intro mD W1 S;have hF:dM Z0 mD W1 W1:=dM.refl _;refine dG (n:=60) ?_
 walk_nrm
 repeat w_nl eH
 refine cz λqa2 qa0=>?_
 replace S:=S.rely (eH hF qa0);clear hF qa0;refine TC (v1:=.slice v.ah b.dJ.length v.ch) (v2:=.slice v.ap b.dz.length v.cp) (v3:=.slice v.iT b.steps.length v.cs) (v4:=.slice v.ac b.dA.length v.cc) (o:=?_) (x:=?_) (bb:=bx) (e:=40) S ?_ ?_ ?_ ?_ ?_ (by simp) ?_
 rotate_left 2
 iterate 2 rfl
 .k_ne
 iterate 2 rfl
 clear S;intro W1 S;walk_nrm;refine Nw (o:=?_) (args:=?_) (ats:=?_) S ?_ ?_ ?_ ?_ Tryz.func33 Zf Zg ?_
 rotate_left 3
 iterate 2 rfl
 .k_ne
 .rfl
 clear S;intro W1 S;walk_nrm;refine HB.out.web _ _ _ _ _ S.kept S.lt λxC W2 bw A cap hk qQ aq9 UB=>?_
 have hsz:=S.kept.rely.size;have ky:=S.lt;have Xn:=S.has;replace S:=S.call hk;obtain⟨e,fr,hwb⟩:=qQ.blk
 obtain⟨sL,Wr,S',hat,hsL⟩:∃sL Wr,Sn dR W0 ([(bw,.cells #[.slice A (fA b (-1)).length cap,.int .i64 (b.steps.length:Int),.int .i64 (dZ b (-1):Int)] e fr)]++sL++ [(bf,.cells #[.bool false] 4),(bm,.cells #[.bool false] 4),(bs,.cells #[.slice none 0 0] 22),(bx,.cells #[.slice v.ah b.dJ.length v.ch,.slice v.ap b.dz.length v.cp,.slice v.iT b.steps.length v.cs,.slice v.ac b.dA.length v.cc] 40)]) xC W2∧
  (jG Wr Wr.heap.size bw (fA b (-1)) b.steps.length (dZ b (-1)) A cap∧Wr.heap[bw]?=some (.cells #[.slice A (fA b (-1)).length cap,.int .i64 (b.steps.length:Int),.int .i64 (dZ b (-1):Int)] e fr))∧(∀a,A=some a->∃cur e fr,(a.block,.cells cur e fr)∈sL∧Wr.heap[a.block]?=some (.cells cur e fr)∧∀x∈cur,eF x=true):=by
  have hne1:∀p∈ [(bf,Obj.cells #[.bool false] 4),(bm,.cells #[.bool false] 4),(bs,.cells #[.slice none 0 0] 22),(bx,.cells #[.slice v.ah b.dJ.length v.ch,.slice v.ap b.dz.length v.cp,.slice v.iT b.steps.length v.cs,.slice v.ac b.dA.length v.cc] 40)],p.1<W1.heap.size:= λp hp=>ky _ (Xn p hp).1
  cases hA:A with
  |none=>
   subst hA;refine⟨[],W2,S.add qQ.ow (by omega) hwb λp hp e=>?_,⟨qQ.at_,hwb⟩, λa h=>by cases h⟩;have :=hne1 p hp;omega
  |some a=>
   subst hA;obtain⟨k1,cur,e',fr',k2,k3⟩:=qQ.str a rfl;have k4:=UB a rfl;refine⟨[(a.block,.cells cur e' fr')],W2,Sn.add (L:=(a.block,.cells cur e' fr')::_) (S.add k1 (by omega) k2 λp hp e=>?_) qQ.ow (by omega) hwb λp hp e=>?_,⟨qQ.at_,hwb⟩, λa' h=>?_⟩
   .have :=hne1 p hp;omega
   .rcases bD.1 hp with rfl|hp
    .have e:a.block=bw:=e;rw[e,hwb]at k2;cases k2;have :=k3 (.slice (some a) (fA b (-1)).length cap) (by simp);simp[eF]at this
    .have :=hne1 p hp;omega
   .cases h;exact⟨cur,e',fr',by simp,k2,k3⟩
 clear S;have S:=S';clear S';clear hk mD W1 qQ hwb aq9 UB hsz ky Xn;rw[Frame.finish_at];have HW:=dw (aM hat hsL);clear hat hsL;simp only[List.cons_append,List.nil_append]at S;revert xC W2;intro mD W1 S;have hF:dM Z0 mD W1 W1:=dM.refl _;refine dG (n:=60) ?_
 walk_nrm
 repeat w_nl eH
 refine cz λqa2 qa0=>?_
 replace S:=S.rely (eH hF qa0);clear hF qa0;refine TA (o:=?_) S ?_ ?_ ?_ ?_ ?_
 rotate_left 1
 iterate 2 rfl
 .k_ne
 iterate 1 rfl
 clear S;intro cw mD W1 S;walk_nrm;refine TD (p:=some ⟨bw,0,none⟩) (o:=?_) (x:=?_) (y:=?_) S hlt ?_ ?_ ?_ ?_ ?_ ?_ ?_
 rotate_left 3
 iterate 2 rfl
 .k_ne
 iterate 3 rfl
 clear S;intro W1 S;walk_nrm;have hF:dM Z0 mD W1 W1:=dM.refl _;refine dG (n:=60) ?_
 repeat w_nl eH
 refine cz λqa2 qa0=>?_
 replace S:=S.rely (eH hF qa0);clear hF qa0;refine V3 (o:=?_) S ?_ ?_ ?_ ?_ ?_
 rotate_left 1
 iterate 2 rfl
 .k_ne
 iterate 1 rfl
 clear S;intro Mu mD W1 S;walk_nrm;have hF:dM Z0 mD W1 W1:=dM.refl _;refine dG (n:=60) ?_
 repeat w_nl eH
 refine cz λqa2 qa0=>?_
 replace S:=S.rely (eH hF qa0);clear hF qa0;refine V4 (o:=?_) S ?_ ?_ ?_ ?_ ?_
 rotate_left 1
 iterate 2 rfl
 .k_ne
 iterate 1 rfl
 clear S;intro Wg mD W1 S;walk_nrm;have hF:dM Z0 mD W1 W1:=dM.refl _;refine dG (n:=60) ?_
 repeat w_nl eH
 refine cz λqa2 qa0=>?_
 replace S:=S.rely (eH hF qa0);clear hF qa0;refine TB (o:=?_) S ?_ ?_ ?_ ?_ ?_
 rotate_left 1
 iterate 2 rfl
 .k_ne
 iterate 1 rfl
 clear S;intro cb mD W1 S;walk_nrm;refine TE (fn:=.func 35) (f1:= #[]) (f2:= #[.pointer (some ⟨bs,0,none⟩),.pointer (some ⟨bf,0,none⟩),.pointer (some ⟨bm,0,none⟩)]) (o:=?_) (x:=?_) (y:=?_) S hlt ?_ ?_ ?_ ?_ ?_ ?_ ?_
 rotate_left 3
 iterate 2 rfl
 .k_ne
 iterate 3 rfl
 clear S;intro W1 S;walk_nrm;have hF:dM Z0 mD W1 W1:=dM.refl _;refine dG (n:=60) ?_
 repeat w_nl eH
 refine cz λqa2 qa0=>?_
 replace S:=S.rely (eH hF qa0);clear hF qa0;refine Zh (o:=?_) S ?_ ?_ ?_ ?_ ?_
 rotate_left 1
 iterate 2 rfl
 .k_ne
 iterate 1 rfl
 clear S;intro sb mD W1 S;walk_nrm;have hF:dM Z0 mD W1 W1:=dM.refl _;refine dG (n:=60) ?_
 repeat w_but "code.loop" eH
 u_c stepG_loop eH hF
 have hS:=S;have m1:=S.has (bw,.cells #[.slice A (fA b (-1)).length cap,.int .i64 (b.steps.length:Int),.int .i64 (dZ b (-1):Int)] e fr) (by simp);obtain⟨⟨hat,hbw⟩,hsL⟩:=HW.out;have hce:∀c,W1.heap[c]?=Wr.heap[c]?->∀o,W1.cell? ⟨c,o,none⟩=Wr.cell? ⟨c,o,none⟩:= λc h o=>fJ h o
 have hW:jG W1 W1.heap.size bw (fA b (-1)) b.steps.length (dZ b (-1)) A cap:=
  ⟨S.lt _ m1.1,(hce _ (m1.2.2.trans hbw.symm) _).trans hat.c0,(hce _ (m1.2.2.trans hbw.symm) _).trans hat.c1,(hce _ (m1.2.2.trans hbw.symm) _).trans hat.c2, λhn=>by obtain⟨bb,off,e',h1,h2⟩:=hat.rd hn;obtain⟨cur,e2,Qv,k1,k2,_⟩:=hsL _ e';have m2:=S.has (bb,.cells cur e2 Qv) (by simp[k1]);exact⟨bb,off,e',S.lt _ m2.1, λi j hi hj=>(hce _ (m2.2.2.trans k2.symm) _).trans (h2 i j hi hj)⟩,hat.ok,hat.len⟩
 have hnx:=HN.out bx bs bm bf cw Mu Wg cb sb bw A cap e fr sL mD W1 (by unfold kR;simpa using S) hW λa ha=>by obtain⟨cur,e2,Qv,k1,k2,k3⟩:=hsL a ha;exact⟨cur,e2,Qv,k1,k3⟩
 clear HN hat hbw hsL hce hW m1 hS S HW;unfold xG JD at hnx;simp only[LP,RP,lQ,fH,fE,jF,Tryz.f19,ak,Nat.reduceEqDiff,if_true,if_false,reduceIte]at hnx;exact cz λqa3 qa7=>hnx qa3 (eH hF qa7) _ _ _ _ _ _ _ _ _ _ _ _ _ _ _ _ _ _ _ _ _ _ _
end
end
section
attribute [local instance] noSh gX
def nm_add:((addFn Tryz.link).name== "runtime.NumGoroutine")=false:=by kernel_rfl
def nm_wait:((waitFn Tryz.link).name== "runtime.NumGoroutine")=false:=by kernel_rfl
def TF:(addFn Tryz.link).body=some (body_add Tryz.link):=by unfold body_add addFn;rfl
def Ny:(waitFn Tryz.link).body=some (body_wait Tryz.link):=by unfold body_wait waitFn;rfl
def PD(x y:Value):Frame.enter Tryz.prog 39 #[x,y] .normal=(base Tryz.link.add).at ⟨#[x,y]++(List.replicate 115 undef).toArray,[]⟩ [.code (body_add Tryz.link)]:=by
 have h:=enter_at (P:=Tryz.prog) (f:=39) #[x,y] Tryz.mK.f_add TF;rw[h];have e:Array.replicate ((addFn Tryz.link).ntmps-(#[x,y]:Array Value).size) undef=(List.replicate 115 undef).toArray:=by rw[List.toArray_replicate];rfl
 rw[e]
def Lu(x:Value):Frame.enter Tryz.prog 46 #[x] .normal=(base Tryz.link.wait).at ⟨#[x]++(List.replicate 83 undef).toArray,[]⟩ [.code (body_wait Tryz.link)]:=by
 have h:=enter_at (P:=Tryz.prog) (f:=46) #[x] Tryz.mK.f_wait Ny;rw[h];have e:Array.replicate ((waitFn Tryz.link).ntmps-(#[x]:Array Value).size) undef=(List.replicate 83 undef).toArray:=by rw[List.toArray_replicate];rfl
 rw[e]
structure Bs(iM:Nat->Prop)(xK:World)(own:Nat->Prop)(W:World):Prop where
 tape:W.tape=xK.tape
 out:W.output=xK.output
 os:OsLater xK.os W.os
 size:xK.heap.size<=W.heap.size
 kept:∀b,iM b->W.heap[b]?=xK.heap[b]?
 sub:∀b,iM b->own b
def Bs.rely{iM own:Nat->Prop}{xK W W1:World}{Z:fO}(h:Bs iM xK own W)(hr:dM Z own W W1):Bs iM xK own W1:=
 ⟨hr.tape.trans h.tape,hr.out.trans h.out,h.os.trans hr.os,aS h.size hr.size, λb hb=>(hr.own b (h.sub b hb)).trans (h.kept b hb),h.sub⟩
structure HP(iM:Nat->Prop)(xK:World)(Mu Wg cw cb bs bm bf bw sb:Nat)(ss:List eX)(n:Nat)(own ro:Nat->Prop)(W:World):Prop where
 VG:ro cw
 Y3:ro cb
 Xk:ro bw
 Td:W.cell? ⟨cw,0,none⟩=some (.pointer (some ⟨bw,0,none⟩))
 VI:W.cell? ⟨cb,0,none⟩=some (.func (.func 35) #[] #[.pointer (some ⟨bs,0,none⟩),.pointer (some ⟨bf,0,none⟩),.pointer (some ⟨bm,0,none⟩)])
 Xl:∃A cap e fr,W.heap[bw]?=some (.cells #[.slice A ss.length cap,.int .i64 (n:Int),.int .i64 ((n+1:Nat):Int)] e fr)∧jG W W.heap.size bw ss n (n+1) A cap∧
  ∀a,A=some a->ro a.block∧∃cur e fr,W.heap[a.block]?=some (.cells cur e fr)∧∀x∈cur,eF x=true
 ul:own sb
 ly:∀j,j<2->W.cell? ⟨sb,j,none⟩=some (.bool (decide (j=1)))
 env:Env Mu Wg own ro W
 mu:wY 83 Mu W
 base:Bs iM xK own W
section
variable {iM:Nat->Prop} {xK:World} {Mu Wg cw cb bs bm bf bw sb:Nat} {ss:List eX} {n:Nat} {own ro:Nat->Prop} {W W1:World} {Z:fO}
def HP.rely(h:HP iM xK Mu Wg cw cb bs bm bf bw sb ss n own ro W)(hz:Z.ro=ro)(hs:Z.sy= λb=>b=Mu∨b=Wg)(hr:dM Z own W W1):HP iM xK Mu Wg cw cb bs bm bf bw sb ss n own ro W1:=by
 have hro:∀b,ro b->W1.heap[b]?=W.heap[b]?:= λb hb=>hr.ro b (by rw[hz];exact hb)
 obtain⟨a1,a2,a3,a5,a6,⟨A,cap,e,fr,a8,a9,Te⟩,a7,b1,b2,b3,b4⟩:=h;refine⟨a1,a2,a3,(fJ (hro _ a1) _).trans a5,(fJ (hro _ a2) _).trans a6,⟨A,cap,e,fr,(hro _ a3).trans a8,si a9 (hro _ a3) (λa e _=>hro _ (Te a e).1) hr.size, λa ha=>?_⟩,a7, λj hj=>(fJ (hr.own _ a7) _).trans (b1 j hj),b2.rel (by rw[hs];exact .inr rfl) hr,wZ b3 (hr.sy _ (by rw[hs];exact .inl rfl)),b4.rely hr⟩;obtain⟨h1,cur,e',fr',h2,h3⟩:=Te a ha;exact⟨h1,cur,e',fr',(hro _ h1).trans h2,h3⟩
def HP.grow{dD:Nat->Prop}(h:HP iM xK Mu Wg cw cb bs bm bf bw sb ss n own ro W)(hsz:W.heap.size<=W1.heap.size)(ho:∀b,own b->dD b)(hn:∀b,dD b->own b∨(W.heap.size<=b∧b<W1.heap.size))(ht:W1.tape=W.tape∧W1.output=W.output∧W1.os=W.os){x:Nat}(hx:x≠sb∧¬ro x∧x≠Mu∧x≠Wg∧¬iM x)(hk:∀b,b<W.heap.size->b≠x->W1.heap[b]?=W.heap[b]?):HP iM xK Mu Wg cw cb bs bm bf bw sb ss n dD ro W1:=by
 obtain⟨a1,a2,a3,a5,a6,⟨A,cap,e,fr,a8,a9,Te⟩,a7,b1,b2,b3,b4⟩:=h;have hro:∀b,ro b->W1.heap[b]?=W.heap[b]?:= λb hb=>hk b (b2.ro b hb) λe=>hx.2.1 (e ▸ hb)
 refine⟨a1,a2,a3,(fJ (hro _ a1) _).trans a5,(fJ (hro _ a2) _).trans a6,⟨A,cap,e,fr,(hro _ a3).trans a8,si a9 (hro _ a3) (λa e _=>hro _ (Te a e).1) hsz, λa ha=>?_⟩,ho _ a7, λj hj=>(fJ (hk _ (b2.own _ a7).1 λe=>hx.1 e.symm) _).trans (b1 j hj),
  ⟨b2.rs, λb hb=>?_, λb hb=>aK (b2.ro b hb) hsz,aK b2.mu hsz,aK b2.wg hsz,aK b2.ja hsz,?_⟩,?_,⟨ht.1.trans b4.tape,ht.2.1.trans b4.out,by rw[ht.2.2];exact b4.os,aS b4.size hsz, λb hb=>(hk b (b2.own b (b4.sub b hb)).1 λe=>hx.2.2.2.2 (e ▸ hb)).trans (b4.kept b hb), λb hb=>ho b (b4.sub b hb)⟩⟩
 .obtain⟨h1,cur,e',fr',h2,h3⟩:=Te a ha;exact⟨h1,cur,e',fr',(hro _ h1).trans h2,h3⟩
 .rcases hn b hb with h|⟨h1,h2⟩
  .exact⟨aK (b2.own b h).1 hsz,(b2.own b h).2⟩
  .exact⟨h2, λe=>by have :=b2.mu;omega, λe=>by have :=b2.wg;omega, λe=>by have :=b2.ro b e;omega⟩
 .obtain⟨p,q,h⟩:=b2.wl;exact⟨p,q,(hk _ b2.wg λe=>hx.2.2.2.1 e.symm).trans h⟩
 .obtain⟨p,q,h⟩:=b3;exact⟨p,q,(hk _ b2.mu λe=>hx.2.2.1 e.symm).trans h⟩
def HP.less{dD:Nat->Prop}(h:HP iM xK Mu Wg cw cb bs bm bf bw sb ss n own ro W)(ho:∀b,dD b->own b)(hs:dD sb)(h0:∀b,iM b->dD b):HP iM xK Mu Wg cw cb bs bm bf bw sb ss n dD ro W:=
 ⟨h.VG,h.Y3,h.Xk,h.Td,h.VI,h.Xl,hs,h.ly,⟨h.env.rs, λb hb=>h.env.own b (ho b hb),h.env.ro,h.env.mu,h.env.wg,h.env.ja,h.env.wl⟩,h.mu,⟨h.base.tape,h.base.out,h.base.os,h.base.size,h.base.kept,h0⟩⟩
def HP.wk{cm:Nat}{m:Bool}{mX:Nat->Prop}(h:HP iM xK Mu Wg cw cb bs bm bf bw sb ss n own ro W)(hc:mX cm)(hv:W.cell? ⟨cm,0,none⟩=some (.bool m)):WK cw cm cb bs bm bf bw ss n m mX ro W:=
 ⟨h.VG,h.Y3,h.Xk,hc,h.Td,h.VI,hv,h.Xl⟩
end
section
variable {Mu Wg cw cb bs bm bf bw sb:Nat} {N:Nat->Nat} {J:Nat->Nat->(Nat->Prop)->World->Prop} {ro:Nat->Prop} {Anch:(Nat->Prop)->Goroutine->World->Prop}
variable {iM:Nat->Prop} {xK:World} {own:Nat->Prop} {W:World} {j n:Nat} {ss:List eX} {fT:Frame} {K':List Frame}
def qf:((cfg Mu Wg 90 N J ro Anch).Zs j).sy= λb=>b=Mu∨b=Wg:=by funext b;apply propext;exact⟨λh=>h.elim id λh=>az h,.inl⟩
def kD{own:Nat->Prop}{w0 w w1:World}{Z:fO}(h:dM Z own w0 w)(hr:dM Z own w w1):dM Z own w0 w1:=h.trans hr
section
variable {b:Frame} {a:Act} {kk:List Item} {cs:List Frame} {w:World} {ops:Array Oper} {i:Nat} {rest:List Nat} {o:Oper} {x:Operand} {cm:Nat} {dD mX:Nat->Prop}
def goW(ho:ops[i]?=some o)(hw:Region.wanted o (yielded ops a.tmps)=true)(hk:b.kind≠ .early)(hop:o.op=.go { callee:=.value x,args:= #[],argTypes:= #[] })
 (hx:a.eval x=.func (.func 40) #[] #[.pointer (some ⟨Wg,0,none⟩),.pointer (some ⟨cw,0,none⟩),.pointer (some ⟨cm,0,none⟩),.pointer (some ⟨Mu,0,none⟩),.pointer (some ⟨cb,0,none⟩),.pointer (some ⟨bs,0,none⟩),.pointer (some ⟨bm,0,none⟩),.pointer (some ⟨bf,0,none⟩)]):
 stepG Tryz.prog true (G (b.at a (.inRegion ops (i::rest)::kk)) cs) w=.spawn (G (b.at (a.put o.dst undef) (.inRegion ops rest::kk)) cs) (born Tryz.prog (DL Wg cw cm Mu cb bs bm bf)) w #[]:=by
 have hl:listed Tryz.prog b.fn a o w= #[]:=by
  have:(execOp a.eval o).events Tryz.prog w #[]= #[]:=by unfold execOp;simp[hop,hx,resolve,Deferred.ofValue]
  unfold listed;rw[this];exact seen_none Tryz.prog _
 have :=stepG_spawn (P:=Tryz.prog) (main:=true) (w:=w) (w':=w) (cs:=cs) (k:=kk) (rest:=rest) (d:=DL Wg cw cm Mu cb bs bm bf) ho hw hk (by unfold execOp DL;simp[hop,hx,resolve,Deferred.ofValue]) rfl
 rw[this,hl]
def aj9(ho:ops[i]?=some o)(hw:Region.wanted o (yielded ops a.tmps)=true)(hk:b.kind≠ .early)(hop:o.op=.go { callee:=.value x,args:= #[],argTypes:= #[] })
 (hx:a.eval x=.func (.func 40) #[] #[.pointer (some ⟨Wg,0,none⟩),.pointer (some ⟨cw,0,none⟩),.pointer (some ⟨cm,0,none⟩),.pointer (some ⟨Mu,0,none⟩),.pointer (some ⟨cb,0,none⟩),.pointer (some ⟨bs,0,none⟩),.pointer (some ⟨bm,0,none⟩),.pointer (some ⟨bf,0,none⟩)])
 (h2:∀b,own b↔dD b∨mX b) (h3:∀b,dD b->¬mX b)
 (h4:Gw Tryz.prog true ((cfg Mu Wg 90 N J ro Anch).Zs (j+1)) (At Tryz.prog (cfg Mu Wg 90 N J ro Anch).sys 0 (.st (fV (cfg Mu Wg 90 N J ro Anch) (j+1)) (j+1))) dD (G (b.at (a.put o.dst undef) (.inRegion ops rest::kk)) cs) w)
 (h5:∀k,k≠0->Gw Tryz.prog false ((cfg Mu Wg 90 N J ro Anch).Zw j) (At Tryz.prog (cfg Mu Wg 90 N J ro Anch).sys k (qx N j 0 0)) mX (born Tryz.prog (DL Wg cw cm Mu cb bs bm bf)) w):
 xI Tryz.prog (cfg Mu Wg 90 N J ro Anch).sys (At Tryz.prog (cfg Mu Wg 90 N J ro Anch).sys) 0 (.st .Ct j) own (G (b.at a (.inRegion ops (i::rest)::kk)) cs) w:=
 Yl rfl rfl (goW ho hw hk hop hx) h2 h3 h4 h5
end
def TG(hne:Mu≠Wg)(uD:bs≠bm∧bs≠bf∧bm≠bf)(hJ:J=JW Mu Wg bs bm bf ro ss n)(hj:j<2)(hN:∀k,k<2->N k=(iI ss n (decide (k=1))).length)(hn:n<=15)
 (hnext:∀own W,HP iM xK Mu Wg cw cb bs bm bf bw sb ss n own ro W->xG fT K' bs bm bf cw Mu Wg cb sb (j+1) λg=>Gw Tryz.prog true ((cfg Mu Wg 90 N J ro Anch).Zs (j+1)) (At Tryz.prog (cfg Mu Wg 90 N J ro Anch).sys 0 (.st (fV (cfg Mu Wg 90 N J ro Anch) (j+1)) (j+1))) own g W)
 (hp:HP iM xK Mu Wg cw cb bs bm bf bw sb ss n own ro W):
 xG fT K' bs bm bf cw Mu Wg cb sb j λg=>Gw Tryz.prog true ((cfg Mu Wg 90 N J ro Anch).Zs j) (At Tryz.prog (cfg Mu Wg 90 N J ro Anch).sys 0 (.st (fV (cfg Mu Wg 90 N J ro Anch) j) j)) own g W:=by
 intro j0 j1 j6 j11 j12 j13 Zi Zj M9 Na Nb Nc Nf Ng Nh Ni Nj Nk Nl Nn Np Nq Nr;have hnp:fV (cfg Mu Wg 90 N J ro Anch) j=.Ot:=aj hj;rw[hnp];have hnm:¬((cfg Mu Wg 90 N J ro Anch).Zs j).mute:= λh=>h
 have HN:=dw hnext;clear hnext;unfold JD;have hj2:(j:Int)<2:=by omega
 have d0:decide ((j:Int)<2)=true:=decide_eq_true (by omega);simp only[LP,RP,lQ,fH,fE,jF,Tryz.f19,ak,Nat.reduceEqDiff,if_true,if_false,reduceIte];have hF:dM ((cfg Mu Wg 90 N J ro Anch).Zs j) own W W:=dM.refl _;refine dG (n:=60) ?_
 repeat w_nl kD
 refine cz λqa2 qa0=>?_
 replace hp:=hp.rely rfl qf (kD hF qa0);clear hF qa0;refine nD (o:=?_) (x:=?_) (ad:=⟨sb,j,none⟩) ?_ ?_ ?_ ?_ ?_ hnm (.inl hp.ul) (hp.ly j hj) ?_
 rotate_left 2
 iterate 2 rfl
 .k_ne
 iterate 2 rfl
 intro qa4 qa1;replace hp:=hp.rely rfl qf qa1;clear qa1;walk_nrm;refine Fg (o:=?_) ?_ ?_ ?_ ?_ hnm (λb hb=>by rw[qf]at hb;rcases hb with rfl|rfl;exact hp.env.mu;exact hp.env.wg) ?_
 rotate_left 1
 iterate 2 rfl
 .k_ne
 .rfl
 intro qa3 qa7;replace hp:=hp.rely rfl qf qa7;clear qa7;have hold:∀c,c<qa3.heap.size->(qa3.heap.push (.cells #[.bool false] 4))[c]?=qa3.heap[c]?:= λc hc=>by rw[Array.getElem?_push_lt hc,aW hc]
 have hcm0:C1 ({ qa3 with heap:=qa3.heap.push (.cells #[.bool false] 4) }:World) qa3.heap.size (.bool false):=⟨4,by simp⟩;obtain⟨vU,Fp⟩:∃vU:Nat->Prop,vU=own:=⟨_,rfl⟩;have hlt:∀b,vU b->b<qa3.heap.size:= λb hb=>(hp.env.own b (Fp ▸ hb)).1
 have hx:qa3.heap.size≠sb∧¬ro qa3.heap.size∧qa3.heap.size≠Mu∧qa3.heap.size≠Wg∧¬iM qa3.heap.size:=
  ⟨λe=>by have :=(hp.env.own _ hp.ul).1;omega, λe=>by have :=hp.env.ro _ e;omega, λe=>by have :=hp.env.mu;omega, λe=>by have :=hp.env.wg;omega, λe=>by have :=(hp.env.own _ (hp.base.sub _ e)).1;omega⟩
 have h00:∀b,iM b->vU b:= λb hb=>by rw[Fp];exact hp.base.sub b hb
 replace hp:=hp.grow (W1:={ qa3 with heap:=qa3.heap.push (.cells #[.bool false] 4) }) (dD:= λc=>own c∨c=qa3.heap.size) (x:=qa3.heap.size) (by simp) (λb hb=>.inl hb) (λb hb=>hb.imp id λe=>⟨by omega,by simp;omega⟩) ⟨rfl,rfl,rfl⟩ hx (λb hb _=>hold b hb);have my:∀b,vU b->b≠qa3.heap.size:= λb hb e=>by have :=hlt b hb;omega
 have hown2:(λc=>own c∨c=qa3.heap.size)= λc=>vU c∨c=qa3.heap.size:=by rw[Fp]
 rw[hown2]at hp⊢;have ar0:vU sb:=by rw[Fp];(have :=hp.ul;rw[Fp]at this;exact this.resolve_right λe=>hx.1 e.symm)
 clear hold hlt hown2;clear Fp;generalize qa3.heap.size=cm at hp hx my hcm0⊢;generalize({ qa3 with heap:=qa3.heap.push (.cells #[.bool false] 4) }:World)=qa8 at hp hcm0⊢;clear qa3 qa4 qa2;walk_nrm;have Lv:vU cm∨cm=cm:=.inr rfl;refine r9 (n:=decide (j=1)) (o:=?_) (x:=?_) (y:=?_) (ad:=⟨cm,0,none⟩) ?_ ?_ ?_ ?_ ?_ ?_ hnm Lv (λh=>by rw[qf]at h;rcases h with h|h;exact hx.2.2.1 h;exact hx.2.2.2.1 h) hcm0.cell hcm0.free ?_
 rotate_left 3
 iterate 2 rfl
 .k_ne
 iterate 3 rfl
 intro qae qag;replace hp:=hp.rely rfl qf qag;replace hcm0:=(hcm0.same (qag.own _ Lv)).set (.bool (decide (j=1)));have ha:=Go.Conc.aside_setCell qae ⟨cm,0,none⟩ (.bool (decide (j=1)));replace hp:=hp.grow (W1:=qae.setCell ⟨cm,0,none⟩ (.bool (decide (j=1)))) (dD:= λc=>vU c∨c=cm) (x:=cm) (Nat.le_of_eq ha.size.symm) (λb hb=>hb) (λb hb=>.inl hb) ⟨ha.tape,ha.output,ha.os⟩ hx (λb _ hb=>ha.block b λe=>hb (by rw[e]));clear ha qag;generalize(qae.setCell ⟨cm,0,none⟩ (.bool (decide (j=1))))=qah at hp hcm0⊢;clear qae qa8;walk_nrm;have hF:dM ((cfg Mu Wg 90 N J ro Anch).Zs j) (λc=>vU c∨c=cm) qah qah:=dM.refl _;refine dG (n:=60) ?_
 repeat w_nl kD
 refine cz λqa2 qa0=>?_
 replace hp:=hp.rely rfl qf (kD hF qa0);replace hcm0:=hcm0.same ((kD hF qa0).own _ Lv);clear hF qa0;refine nK (o:=?_) (args:=?_) (ats:=?_) ?_ ?_ ?_ ?_ Tryz.mK.f_add nm_add TF ?_
 rotate_left 3
 iterate 2 rfl
 .k_ne
 .rfl
 intro qa4 qa1;replace hp:=hp.rely rfl qf qa1;replace hcm0:=hcm0.same (qa1.own _ Lv);clear qa1;walk_nrm;rw[PD]
 have Py:Beside (cfg Mu Wg 90 N J ro Anch) ((cfg Mu Wg 90 N J ro Anch).Zs j) (λc=>vU c∨c=cm):=
  ⟨λb hb h=>h.elim (hp.env.own b hb).2.1 (hp.env.own b hb).2.2.1, λb hb h=>h.elim (hp.env.rs b hb).1 (hp.env.rs b hb).2, λb i h=>by obtain⟨_,_,_,h⟩:=h;exact az h⟩
 refine dG (n:=100) ?_
 refine an4 (P:=Tryz.prog) (L:=Tryz.link) (C:=cfg Mu Wg 90 N J ro Anch) (W0:=qa4) Tryz.mK rfl (FW hne) Py (λw hw=>?_) qa4 ⟨dM.refl _,hp.env.wl⟩;replace hp:=hp.rely rfl qf hw.1;replace hcm0:=hcm0.same (hw.1.own _ Lv);clear hw;have hF:dM ((cfg Mu Wg 90 N J ro Anch).Zs j) (λc=>vU c∨c=cm) w w:=dM.refl _;refine dG (n:=60) ?_
 walk_nrm
 repeat w_nl kD
 refine cz λqa2 qa0=>?_
 replace hp:=hp.rely rfl qf (kD hF qa0);replace hcm0:=hcm0.same ((kD hF qa0).own _ Lv);clear hF qa0 w qa4 qah;refine Gw.stop λqa4 qa1=>At.of_law ?_
 replace hp:=hp.rely rfl qf qa1;replace hcm0:=hcm0.same (qa1.own _ Lv);clear qa1 qa2;refine aj9 (cw:=cw) (cb:=cb) (bs:=bs) (bm:=bm) (bf:=bf) (cm:=cm) (dD:=vU) (mX:= λc=>c=cm) (o:=?_) (x:=?_) ?_ ?_ ?_ ?_ ?_ (λb=>Iff.rfl) my ?_ (λk hk=>?_)
 rotate_left 2
 iterate 2 rfl
 .k_ne
 iterate 2 rfl
 .replace hp:=hp.less (dD:=vU) (λb hb=>.inl hb) ar0 h00;have hnx:= λw h=>HN.out vU w (hp.rely (Z:=(cfg Mu Wg 90 N J ro Anch).Zs (j+1)) rfl qf h)
  clear HN hcm0 hnm;have hwr:IntKind.i64.wrap ((j:Int)+1)=((j+1:Nat):Int):=by rw[cB];omega
  have hF:dM ((cfg Mu Wg 90 N J ro Anch).Zs (j+1)) vU qa4 qa4:=dM.refl _;unfold xG JD at hnx;simp only[LP,RP,lQ,fH,fE,jF,Tryz.f19,ak,Nat.reduceEqDiff,if_true,if_false,reduceIte]at hnx;refine dG (n:=60) ?_
  walk_nrm
  repeat w_nl kD
  u_c stepG_inLoop kD hF
  exact cz λqa3 qa7=>hnx qa3 (kD hF qa7) _ _ _ _ _ _ _ _ _ _ _ _ _ _ _ _ _ _ _ _ _ _ _
 .refine VT hne hk uD hJ hj hN hn (hp.wk rfl hcm0.cell) ⟨hp.env.rs, λb hb=>hp.env.own b (.inr hb),hp.env.ro,hp.env.mu,hp.env.wg,hp.env.ja,hp.env.wl⟩ hp.mu
end
end
section
attribute [local instance] noSh gX
noncomputable def jH:Array Oper:=((gG 15 lQ).getD (#[],.skip)).1
def Zk:pd=.seq (.region 15 jH true) .ret:=by simp only[pd,jH,lQ,fE,gG,jF,Tryz.f19,ak,Nat.reduceEqDiff,if_true,if_false,reduceIte]
def DR:jH.size=7:=by kernel_rfl
def Zl:∃o,jH[0]?=some o∧o.op=.load 22 (.tmp 2)∧o.dst=some 31∧o.guard=none:=⟨_,by unfold jH lQ Tryz.f19;rfl,rfl,rfl,rfl⟩
def Zm:∃o,jH[1]?=some o∧o.op=.load 4 (.tmp 3)∧o.dst=some 32∧o.guard=none:=⟨_,by unfold jH lQ Tryz.f19;rfl,rfl,rfl,rfl⟩
def Zn:∃o,jH[2]?=some o∧o.op=.load 4 (.tmp 4)∧o.dst=some 33∧o.guard=none:=⟨_,by unfold jH lQ Tryz.f19;rfl,rfl,rfl,rfl⟩
def Zo:∃o,jH[3]?=some o∧o.op=.store 22 (.tmp 2) (.tmp 31)∧o.dst=none∧o.guard=none∧(o.after.any λe=>e.on==0&&Region.binds .any e)=true:=
 ⟨_,by unfold jH lQ Tryz.f19;rfl,rfl,rfl,rfl,by kernel_rfl⟩
def Zq:∃o,jH[4]?=some o∧o.op=.store 4 (.tmp 3) (.tmp 32)∧o.dst=none∧o.guard=none∧(o.after.any λe=>e.on==1&&Region.binds .any e)=true:=
 ⟨_,by unfold jH lQ Tryz.f19;rfl,rfl,rfl,rfl,by kernel_rfl⟩
def Zr:∃o,jH[5]?=some o∧o.op=.store 4 (.tmp 4) (.tmp 33)∧o.dst=none∧o.guard=none∧(o.after.any λe=>e.on==2&&Region.binds .any e)=true:=
 ⟨_,by unfold jH lQ Tryz.f19;rfl,rfl,rfl,rfl,by kernel_rfl⟩
def Zt:∃o,jH[6]?=some o∧o.op=.assign (.const (.int .i64 0))∧o.dst=some 5∧o.guard=none:=⟨_,by unfold jH lQ Tryz.f19;rfl,rfl,rfl,rfl⟩
def GK{o:Oper}{k:Nat}(h:(o.after.any λe=>e.on==k&&Region.binds .any e)=true){l:Array Bool}(ha:(o.after.all λe=>!Region.binds .any e||l.getD e.on false)=true):l.getD k false=true:=by rw[Array.any_eq_true]at h;obtain⟨i,hi,h1⟩:=h;rw[Array.all_eq_true]at ha;have h2:=ha i hi;simp only[bB,beq_iff_eq]at h1;rw[h1.2,h1.1]at h2;simpa using h2
structure TQ(bs bm bf:Nat)(A:Option Addr)(cap:Nat)(st:List Int)(eO found:Bool)(T:Array Value)(l:Array Bool):Prop where
 t2:T[2]?=some (.pointer (some ⟨bs,0,none⟩))
 t3:T[3]?=some (.pointer (some ⟨bm,0,none⟩))
 t4:T[4]?=some (.pointer (some ⟨bf,0,none⟩))
 t5:T[5]?=some (.int .i64 0)
 sz:T.size=34
 l0:l.getD 0 false=true->T[31]?=some (.slice A st.length cap)
 l1:l.getD 1 false=true->T[32]?=some (.bool eO)
 l2:l.getD 2 false=true->T[33]?=some (.bool found)
structure F3(bs bm bf:Nat)(A:Option Addr)(cap:Nat)(st:List Int)(eO found:Bool)(own:Nat->Prop)(W:World):Prop where
 gs:own bs
 gm:own bm
 gf:own bf
 vs:∃e,W.heap[bs]?=some (.cells #[.slice A st.length cap] e)
 vm:∃e,W.heap[bm]?=some (.cells #[.bool eO] e)
 vf:∃e,W.heap[bf]?=some (.cells #[.bool found] e)
structure Sm(own:Nat->Prop)(W W':World):Prop where
 tape:W'.tape=W.tape
 out:W'.output=W.output
 os:OsLater W.os W'.os
 size:W.heap.size<=W'.heap.size
 kept:∀b,own b->W'.heap[b]?=W.heap[b]?
def Sm.refl(own:Nat->Prop)(W:World):Sm own W W:=⟨rfl,rfl,OsLater.refl _,aJ _, λ_ _=>rfl⟩
def Sm.rely{own:Nat->Prop}{W W1 W2:World}(h:Sm own W W1)(hr:dM Z0 own W1 W2):Sm own W W2:=
 ⟨hr.tape.trans h.tape,hr.out.trans h.out,h.os.trans hr.os,aS h.size hr.size, λb hb=>(hr.own b hb).trans (h.kept b hb)⟩
def Sm.trans{own:Nat->Prop}{W W1 W2:World}(h:Sm own W W1)(hr:Sm own W1 W2):Sm own W W2:=
 ⟨hr.tape.trans h.tape,hr.out.trans h.out,h.os.trans hr.os,aS h.size hr.size, λb hb=>(hr.kept b hb).trans (h.kept b hb)⟩
def Sm.set{own:Nat->Prop}{W:World}{b:Nat}{v:Value}{e:TypeId}(h:W.heap[b]?=some (.cells #[v] e)):Sm own W (W.setCell ⟨b,0,none⟩ v):=by
 have ha:=Go.Conc.aside_setCell W ⟨b,0,none⟩ v;refine⟨ha.tape,ha.output,by rw[ha.os];exact OsLater.refl _,Nat.le_of_eq ha.size.symm, λc _=>?_⟩
 by_cases e:c=b
 .subst e;rw[heap_setCell_same W c 0 _ _ v h,h];rfl
 .exact ha.block c e
def F3.sm{bs bm bf:Nat}{A:Option Addr}{cap:Nat}{st:List Int}{eO found:Bool}{own:Nat->Prop}{W W':World}(h:F3 bs bm bf A cap st eO found own W)(hs:Sm own W W'):F3 bs bm bf A cap st eO found own W':=by obtain⟨g1,g2,g3,⟨e1,v1⟩,⟨e2,v2⟩,⟨e3,v3⟩⟩:=h;exact⟨g1,g2,g3,⟨e1,(hs.kept _ g1).trans v1⟩,⟨e2,(hs.kept _ g2).trans v2⟩,⟨e3,(hs.kept _ g3).trans v3⟩⟩
def mE{W:World}{b:Nat}{v:Value}(h:∃e,W.heap[b]?=some (.cells #[v] e)):W.cell? ⟨b,0,none⟩=some v:=by obtain⟨e,h⟩:=h;unfold World.cell?;simp only[h];rfl
def DT{W:World}{b:Nat}{v:Value}(h:∃e,W.heap[b]?=some (.cells #[v] e)):W.frozen? ⟨b,0,none⟩=false:=by obtain⟨e,h⟩:=h;unfold World.frozen?;simp only[h];rfl
def Lx{own:Nat->Prop}{W:World}{b:Nat}{v:Value}(h:∃e,W.heap[b]?=some (.cells #[v] e)):Sm own W (W.setCell ⟨b,0,none⟩ v):=by obtain⟨e,h⟩:=h;exact Sm.set h
def iN{l:Array Bool}{i k:Nat}(h:(l.setIfInBounds i true).getD k false=true):k=i∨l.getD k false=true:=by
 by_cases e:k=i
 .exact .inl e
 .right;rw[aA,au (Ne.symm e)]at h
  rwa [aA]
end
section
attribute [local instance] noSh gX
section
variable {bs bm bf:Nat} {A:Option Addr} {cap:Nat} {st:List Int} {eO found:Bool} {own:Nat->Prop} {W:World} {cs:List Frame} {kk:List Item} {Stop:(Nat->Prop)->Goroutine->World->Prop}
def mF{T:Array Value}{k:Nat}{v:Value}(h:T[k]?=some v):(⟨T,[]⟩:Act).eval (.tmp k)=v:=by simp[Act.eval,h]
def jX{o:Oper}(h:o.guard=none)(f:Nat->Option Bool):Region.wanted o f=true:=by unfold Region.wanted;rw[h]
def zh(T:Array Value)(d:Tmp)(v:Value):(⟨T,[]⟩:Act).put (some d) v=⟨T.setIfInBounds d v,[]⟩:=rfl
def DU(T:Array Value)(v:Value):(⟨T,[]⟩:Act).put none v=⟨T,[]⟩:=rfl
def Zu{main:Bool}{Z:fO}{b:Frame}{a:Act}{ops:Array Oper}{i:Nat}{rest:List Nat}{o:Oper}{x:Operand}(ho:ops[i]?=some o)(hw:Region.wanted o (yielded ops a.tmps)=true)(hk:b.kind≠ .early)(hop:o.op=.assign x)
 (hn:∀W1,dM Z own W W1->Gw Tryz.prog main Z Stop own (G (b.at (a.put o.dst (a.eval x)) (.inRegion ops rest::kk)) cs) W1):
 Gw Tryz.prog main Z Stop own (G (b.at a (.inRegion ops (i::rest)::kk)) cs) W:=
 yA ho hw hk λW1 hr=>⟨_,W1,by unfold execOp;simp only[hop];rfl,qK.refl _, λe he=>by unfold execOp at he;simp only[hop]at he;simp at he,by rw[jB];exact hn W1 hr⟩
def ak1:∀(fuel t:Nat)(l:Array Bool)(T:Array Value)(W:World),TQ bs bm bf A cap st eO found T l->l.size=7->F3 bs bm bf A cap st eO found own W->
 (∀T' l' W',TQ bs bm bf A cap st eO found T' l'->Sm own W W'->Gw Tryz.prog true Z0 Stop own (G ((base 19).at ⟨T',[]⟩ (.inRegion jH []::kk)) cs) W')->
 Gw Tryz.prog true Z0 Stop own (G ((base 19).at ⟨T,[]⟩ (.inRegion jH (Region.linearise.go .any jH fuel t l [])::kk)) cs) W:=by
 intro fuel;have hnm:¬Z0.mute:= λh=>h
 have hk:(base 19).kind≠ .early:=base_kind _
 induction fuel with
 |zero=>intro t l T W hT hl hF hK;exact hK T l W hT (Sm.refl _ _)
 |succ fuel ih=>
  intro t l T W hT hl hF hK;simp only[Region.linearise.go];split
  .rename_i i hi;rw[linearise_go_acc,List.reverse_singleton,List.singleton_append];have hm:=List.mem_of_getElem? hi;simp only[List.mem_filter,List.mem_range,bB,DR]at hm;obtain⟨h7,_,h2⟩:=hm;clear hi;have hl':(l.setIfInBounds i true).size=7:=by simpa using hl
   have keep:∀(T':Array Value)(W':World),TQ bs bm bf A cap st eO found T' (l.setIfInBounds i true)->Sm own W W'->
    Gw Tryz.prog true Z0 Stop own (G ((base 19).at ⟨T',[]⟩ (.inRegion jH (Region.linearise.go .any jH fuel (t/ ((List.range jH.size).filter λi=>!l.getD i true&&((jH[i]?).map (·.after.all λe=>!Region.binds .any e||l.getD e.on false)).getD false).length) (l.setIfInBounds i true) [])::kk)) cs) W':=
    λT' W' h1 h2=>ih _ _ T' W' h1 hl' (hF.sm h2) λT'' l'' W'' h3 h4=>hK T'' l'' W'' h3 (h2.trans h4)
   have nE:∀d v,d≠2->d≠3->d≠4->d≠5->(∀k,k≠d->(T.setIfInBounds d v)[k]?=T[k]?):= λd v _ _ _ _ k hk=>by rw[au (Ne.symm hk)]
   have hin:∀d v,d<34->(T.setIfInBounds d v)[d]?=some v:= λd v hd=>by rw[aD (by rw[hT.sz];exact hd)]
   obtain rfl|rfl|rfl|rfl|rfl|rfl|rfl:i=0∨i=1∨i=2∨i=3∨i=4∨i=5∨i=6:=by omega
   .obtain⟨o,ho,e1,e2,e3⟩:=Zl;refine VF (ad:=⟨bs,0,none⟩) (p:=A) (l:=st.length) (c:=cap) ho (jX e3 _) hk e1 (mF hT.t2) hnm (.inl hF.gs) (mE hF.vs) λW1 hr=>?_
    rw[e2,zh];refine keep _ _ ⟨?_,?_,?_,?_,by simpa using hT.sz, λ_=>hin 31 _ (by omega), λh=>?_, λh=>?_⟩ ((Sm.refl _ _).rely hr)
    .rw[nE 31 _ (by omega) (by omega) (by omega) (by omega) 2 (by omega)];exact hT.t2
    .rw[nE 31 _ (by omega) (by omega) (by omega) (by omega) 3 (by omega)];exact hT.t3
    .rw[nE 31 _ (by omega) (by omega) (by omega) (by omega) 4 (by omega)];exact hT.t4
    .rw[nE 31 _ (by omega) (by omega) (by omega) (by omega) 5 (by omega)];exact hT.t5
    .rw[nE 31 _ (by omega) (by omega) (by omega) (by omega) 32 (by omega)];exact hT.l1 ((iN h).resolve_left (by omega))
    .rw[nE 31 _ (by omega) (by omega) (by omega) (by omega) 33 (by omega)];exact hT.l2 ((iN h).resolve_left (by omega))
   .obtain⟨o,ho,e1,e2,e3⟩:=Zm;refine nD (ad:=⟨bm,0,none⟩) (n:=eO) ho (jX e3 _) hk e1 (mF hT.t3) hnm (.inl hF.gm) (mE hF.vm) λW1 hr=>?_
    rw[e2,zh];refine keep _ _ ⟨?_,?_,?_,?_,by simpa using hT.sz, λh=>?_, λ_=>hin 32 _ (by omega), λh=>?_⟩ ((Sm.refl _ _).rely hr)
    .rw[nE 32 _ (by omega) (by omega) (by omega) (by omega) 2 (by omega)];exact hT.t2
    .rw[nE 32 _ (by omega) (by omega) (by omega) (by omega) 3 (by omega)];exact hT.t3
    .rw[nE 32 _ (by omega) (by omega) (by omega) (by omega) 4 (by omega)];exact hT.t4
    .rw[nE 32 _ (by omega) (by omega) (by omega) (by omega) 5 (by omega)];exact hT.t5
    .rw[nE 32 _ (by omega) (by omega) (by omega) (by omega) 31 (by omega)];exact hT.l0 ((iN h).resolve_left (by omega))
    .rw[nE 32 _ (by omega) (by omega) (by omega) (by omega) 33 (by omega)];exact hT.l2 ((iN h).resolve_left (by omega))
   .obtain⟨o,ho,e1,e2,e3⟩:=Zn;refine nD (ad:=⟨bf,0,none⟩) (n:=found) ho (jX e3 _) hk e1 (mF hT.t4) hnm (.inl hF.gf) (mE hF.vf) λW1 hr=>?_
    rw[e2,zh];refine keep _ _ ⟨?_,?_,?_,?_,by simpa using hT.sz, λh=>?_, λh=>?_, λ_=>hin 33 _ (by omega)⟩ ((Sm.refl _ _).rely hr)
    .rw[nE 33 _ (by omega) (by omega) (by omega) (by omega) 2 (by omega)];exact hT.t2
    .rw[nE 33 _ (by omega) (by omega) (by omega) (by omega) 3 (by omega)];exact hT.t3
    .rw[nE 33 _ (by omega) (by omega) (by omega) (by omega) 4 (by omega)];exact hT.t4
    .rw[nE 33 _ (by omega) (by omega) (by omega) (by omega) 5 (by omega)];exact hT.t5
    .rw[nE 33 _ (by omega) (by omega) (by omega) (by omega) 31 (by omega)];exact hT.l0 ((iN h).resolve_left (by omega))
    .rw[nE 33 _ (by omega) (by omega) (by omega) (by omega) 32 (by omega)];exact hT.l1 ((iN h).resolve_left (by omega))
   .obtain⟨o,ho,e1,e2,e3,e4⟩:=Zo;have hd:=GK e4 (l:=l) (by rw[ho]at h2;simpa using h2);refine M7 (ad:=⟨bs,0,none⟩) (p:=A) (l:=st.length) (c:=cap) ho (jX e3 _) hk e1 (mF hT.t2) (mF (hT.l0 hd)) hnm hF.gs (λh=>h) (mE hF.vs) (DT hF.vs) λW1 hr=>?_
    rw[e2,DU];refine keep _ _ ⟨hT.t2,hT.t3,hT.t4,hT.t5,hT.sz, λh=>hT.l0 hd, λh=>hT.l1 ((iN h).resolve_left (by omega)), λh=>hT.l2 ((iN h).resolve_left (by omega))⟩ (((Sm.refl own W).rely hr).trans (Lx (hF.sm ((Sm.refl own W).rely hr)).vs))
   .obtain⟨o,ho,e1,e2,e3,e4⟩:=Zq;have hd:=GK e4 (l:=l) (by rw[ho]at h2;simpa using h2);refine r9 (ad:=⟨bm,0,none⟩) (n:=eO) ho (jX e3 _) hk e1 (mF hT.t3) (mF (hT.l1 hd)) hnm hF.gm (λh=>h) (mE hF.vm) (DT hF.vm) λW1 hr=>?_
    rw[e2,DU];refine keep _ _ ⟨hT.t2,hT.t3,hT.t4,hT.t5,hT.sz, λh=>hT.l0 ((iN h).resolve_left (by omega)), λh=>hT.l1 hd, λh=>hT.l2 ((iN h).resolve_left (by omega))⟩ (((Sm.refl own W).rely hr).trans (Lx (hF.sm ((Sm.refl own W).rely hr)).vm))
   .obtain⟨o,ho,e1,e2,e3,e4⟩:=Zr;have hd:=GK e4 (l:=l) (by rw[ho]at h2;simpa using h2);refine r9 (ad:=⟨bf,0,none⟩) (n:=found) ho (jX e3 _) hk e1 (mF hT.t4) (mF (hT.l2 hd)) hnm hF.gf (λh=>h) (mE hF.vf) (DT hF.vf) λW1 hr=>?_
    rw[e2,DU];refine keep _ _ ⟨hT.t2,hT.t3,hT.t4,hT.t5,hT.sz, λh=>hT.l0 ((iN h).resolve_left (by omega)), λh=>hT.l1 ((iN h).resolve_left (by omega)), λh=>hT.l2 hd⟩ (((Sm.refl own W).rely hr).trans (Lx (hF.sm ((Sm.refl own W).rely hr)).vf))
   .obtain⟨o,ho,e1,e2,e3⟩:=Zt;refine Zu ho (jX e3 _) hk e1 λW1 hr=>?_
    rw[e2,zh];have hs5:∀k,k≠5->(T.setIfInBounds 5 (.int .i64 0))[k]?=T[k]?:= λk hk=>by rw[au (Ne.symm hk)]
    refine keep _ _ ⟨?_,?_,?_,hin 5 _ (by omega),by simpa using hT.sz, λh=>?_, λh=>?_, λh=>?_⟩ ((Sm.refl _ _).rely hr)
    .exact(hs5 2 (by omega)).trans hT.t2
    .exact(hs5 3 (by omega)).trans hT.t3
    .exact(hs5 4 (by omega)).trans hT.t4
    .exact(hs5 31 (by omega)).trans (hT.l0 ((iN h).resolve_left (by omega)))
    .exact(hs5 32 (by omega)).trans (hT.l1 ((iN h).resolve_left (by omega)))
    .exact(hs5 33 (by omega)).trans (hT.l2 ((iN h).resolve_left (by omega)))
  .exact hK T l W hT (Sm.refl _ _)
end
end
section
attribute [local instance] noSh gX
section
variable {bs bm bf:Nat} {A:Option Addr} {cap:Nat} {st:List Int} {eO found:Bool} {own:Nat->Prop} {W:World} {c:Frame} {cs:List Frame} {kk:List Item} {Stop:(Nat->Prop)->Goroutine->World->Prop}
def GM{P:Program}{main:Bool}{b:Frame}{a:Act}{w:World}{fn:Func}{todo:List Item}{c:Frame}{v:Value}{es:Array Event}(hn:b.kind=.normal)(hd:a.defers= [])(hf:P.funcs[b.fn]?=some fn)
 (hr:(results fn a.tmps).run P w=.ok v w) (he:(results fn a.tmps).events P w #[]=es):
 stepG P main (G { b.at a todo with mode:=.returning } (c::cs)) w=.go (G (c.finish v) cs) w (seen P b.fn es):=by
 subst he;simp[G,stepG,unwind,doReturn,Frame.at,hn,hd,hf,hr,GStep.after]
def Zv:Tryz.prog.follows .mixedOrders=true:=by kernel_rfl
def Zx{T:Array Value}{l:Array Bool}{W:World}(hT:TQ bs bm bf A cap st eO found T l)(h1:W.cell? ⟨bs,0,none⟩=some (.slice A st.length cap))(h2:W.cell? ⟨bm,0,none⟩=some (.bool eO))(h3:W.cell? ⟨bf,0,none⟩=some (.bool found)):
 (results Tryz.f19 T).run Tryz.prog W=.ok (.tuple #[.slice A st.length cap,.bool eO,.bool found,.int .i64 0]) W∧∀e∈(results Tryz.f19 T).events Tryz.prog W #[],∃b,(b=bs∨b=bm∨b=bf)∧e.loc=.cell ⟨b,0,none⟩∧e.sync=false∧e.write=false:=by
 have g2:T.getD 2 undef=.pointer (some ⟨bs,0,none⟩):=by rw[aA,hT.t2];rfl
 have g3:T.getD 3 undef=.pointer (some ⟨bm,0,none⟩):=by rw[aA,hT.t3];rfl
 have g4:T.getD 4 undef=.pointer (some ⟨bf,0,none⟩):=by rw[aA,hT.t4];rfl
 have g5:T.getD 5 undef=.int .i64 0:=by rw[aA,hT.t5];rfl
 have t2:=hT.t2;have t3:=hT.t3;have t4:=hT.t4;have t5:=hT.t5;have hres:Tryz.f19.results= #[ResultVar.cell 2 22,ResultVar.cell 3 4,ResultVar.cell 4 4,ResultVar.tmp 5]:=by unfold Tryz.f19;rfl
 unfold results;rw[hres];refine⟨by simp[go_sem,t2,t3,t4,t5,h1,h2,h3], λe he=>?_⟩;simp[go_sem,t2,t3,t4,t5,h1,h2,h3]at he;rcases he with rfl|rfl|rfl
 .exact⟨bs,.inl rfl,rfl,rfl,rfl⟩
 .exact⟨bm,.inr (.inl rfl),rfl,rfl,rfl⟩
 .exact⟨bf,.inr (.inr rfl),rfl,rfl,rfl⟩
def Gw.drawn{P:Program}{main:Bool}{Z:fO}{b:Frame}{a:Act}{id:Nat}{ops:Array Oper}(hm:P.follows .mixedOrders=true)
 (h:∀W1 t,dM Z own W W1->Gw P main Z Stop own (G (b.at a (.inRegion ops (Region.linearise.go .any ops ops.size t (Array.replicate ops.size false) [])::kk)) cs) { W1 with drawn:=W1.drawn+1 }):
 Gw P main Z Stop own (G (b.at a (.code (.region id ops true)::kk)) cs) W:=by
 refine Gw.xY rfl λW1 hr=>⟨_,_,#[],stepG_region_draw,⟨rfl,rfl,rfl,aJ _, λ_ _ _ _=>rfl, λb _=>⟨tV.refl _, λ_ _=>rfl⟩⟩, λe he=>by simp at he,?_⟩
 have hg:grow own W1 { W1 with drawn:=W1.drawn+1 }=own:=by
  funext x;apply propext;unfold grow
  exact⟨λh=>h.elim (λx=>x) λ⟨h1,h2⟩=>by have h2:x<W1.heap.size:=h2;omega,.inl⟩
 rw[hg];have :=h W1 (W1.tape W1.drawn (.order b.fn id)) hr;simp only[Region.schedule,hm,Bool.true_or,if_true,Region.linearise];exact this
def ar1{T:Array Value}{own:Nat->Prop}{W:World}(h2:T[2]?=some (.pointer (some ⟨bs,0,none⟩)))(h3:T[3]?=some (.pointer (some ⟨bm,0,none⟩)))(h4:T[4]?=some (.pointer (some ⟨bf,0,none⟩)))(h5:T[5]?=some (.int .i64 0))(hsz:T.size=34)(na:F3 bs bm bf A cap st eO found own W)
 (lU:∀W',Sm own W W'->Gw Tryz.prog true Z0 Stop own (G (c.finish (.tuple #[.slice A st.length cap,.bool eO,.bool found,.int .i64 0])) cs) W'):
 Gw Tryz.prog true Z0 Stop own (G ((base 19).at ⟨T,[]⟩ [.code pd]) (c::cs)) W:=by
 have hF:dM Z0 own W W:=dM.refl _;rw[Zk];refine dG (n:=20) ?_
 u_c stepG_seq eH hF
 refine cz λW1 hr=>?_
 replace hF:=eH hF hr;clear hr;have S1:Sm own W W1:=(Sm.refl own W).rely hF;clear hF;refine Gw.drawn Zv λW2 t hr=>?_
 replace S1:=S1.rely hr;clear hr;have S2:Sm own W { W2 with drawn:=W2.drawn+1 }:=S1.trans ⟨rfl,rfl,OsLater.refl _,aJ _, λ_ _=>rfl⟩;rw[DR];refine ak1 7 t _ T _ ⟨h2,h3,h4,h5,hsz, λh=>?_, λh=>?_, λh=>?_⟩ (by simp) (na.sm S2) λT' l' W3 hT' hs=>?_
 .simp at h
 .simp at h
 .simp at h
 replace S2:=S2.trans hs;clear hs S1;have hF:dM Z0 own W3 W3:=dM.refl _;refine dG (n:=20) ?_
 u_c stepG_region_end eH hF
 u_c stepG_ret' eH hF
 refine cz λW4 hr=>?_
 replace S2:=S2.rely (eH hF hr);clear hF hr;refine Gw.xY rfl λW5 hr=>?_
 replace S2:=S2.rely hr;have hf:=na.sm S2;obtain⟨r1,r2⟩:=Zx hT' (mE hf.vs) (mE hf.vm) (mE hf.vf);refine⟨_,W5,_,GM (fn:=Tryz.f19) (b:=base 19) (a:=⟨T',[]⟩) rfl rfl Tryz.func19 r1 rfl,qK.refl _, λe he=>?_,by rw[jB];exact lU W5 S2⟩;rw[jB];obtain⟨b,hb,e1,e2,e3⟩:=r2 e (mem_seen he);obtain⟨loc,wr,sy⟩:=e;dsimp only at e1 e2 e3;subst e1 e2 e3;refine⟨λh=>h,rfl,.inl ?_⟩;rcases hb with rfl|rfl|rfl
 .exact na.gs
 .exact na.gm
 .exact na.gf
end
end
section
attribute [local instance] noSh gX
def Xo(fT:Frame)(K':List Frame)(bs bm bf:Nat)(g:Goroutine):Prop:=
 ∃T:Array Value,T[2]?=some (.pointer (some ⟨bs,0,none⟩))∧T[3]?=some (.pointer (some ⟨bm,0,none⟩))∧T[4]?=some (.pointer (some ⟨bf,0,none⟩))∧T[5]?=some (.int .i64 0)∧T.size=34∧g=G ((base 19).at ⟨T,[]⟩ [.code pd]) (fT::K')
def DV(fT:Frame)(K':List Frame)(bs bm bf:Nat)(ss:List eX)(n:Nat)(iM:Nat->Prop)(xK:World)(own:Nat->Prop)(g:Goroutine)(W:World):Prop:=
 (∃A cap st eO found,Fd bs bm bf A cap st eO found own W∧(∀a,A=some a->¬iM a.block)∧lq (fU ss n (iI ss n false).length (iI ss n true).length) st eO found)∧Bs iM xK own W∧Xo fT K' bs bm bf g
def Fd.sub{bs bm bf:Nat}{A:Option Addr}{cap:Nat}{st:List Int}{eO found:Bool}{Gu oy:Nat->Prop}{W:World}(h:Fd bs bm bf A cap st eO found Gu W)(hs:∀b,Gu b->oy b):Fd bs bm bf A cap st eO found oy W:=
 ⟨hs _ h.gs,hs _ h.gm,hs _ h.gf,h.vs,h.vm,h.vf,h.sl.sub hs,h.len⟩
section
variable {Mu Wg cw cb bs bm bf bw sb:Nat} {N:Nat->Nat} {J:Nat->Nat->(Nat->Prop)->World->Prop} {ro:Nat->Prop} {Anch:(Nat->Prop)->Goroutine->World->Prop}
variable {iM:Nat->Prop} {xK:World} {own:Nat->Prop} {W:World} {n:Nat} {ss:List eX} {fT:Frame} {K':List Frame}
def ak2(hne:Mu≠Wg)(hJ:J=JW Mu Wg bs bm bf ro ss n)(hN:∀k,k<2->N k=(iI ss n (decide (k=1))).length)(hA:Anch=DV fT K' bs bm bf ss n iM xK)
 (hp:HP iM xK Mu Wg cw cb bs bm bf bw sb ss n own ro W):
 xG fT K' bs bm bf cw Mu Wg cb sb 2 λg=>Gw Tryz.prog true ((cfg Mu Wg 90 N J ro Anch).Zs 2) (At Tryz.prog (cfg Mu Wg 90 N J ro Anch).sys 0 (.st (fV (cfg Mu Wg 90 N J ro Anch) 2) 2)) own g W:=by
 intro j0 j1 j6 j11 j12 j13 Zi Zj M9 Na Nb Nc Nf Ng Nh Ni Nj Nk Nl Nn Np Nq Nr;have hnp:fV (cfg Mu Wg 90 N J ro Anch) 2=.kd:=aa (Nat.lt_irrefl 2);rw[hnp];have hnm:¬((cfg Mu Wg 90 N J ro Anch).Zs 2).mute:= λh=>h
 unfold JD;simp only[LP,RP,lQ,fH,fE,jF,Tryz.f19,ak,Nat.reduceEqDiff,if_true,if_false,reduceIte];have hF:dM ((cfg Mu Wg 90 N J ro Anch).Zs 2) own W W:=dM.refl _;refine dG (n:=60) ?_
 repeat w_nl kD
 refine cz λqa2 qa0=>?_
 replace hp:=hp.rely rfl qf (kD hF qa0);clear hF qa0;refine nK (o:=?_) (args:=?_) (ats:=?_) ?_ ?_ ?_ ?_ Tryz.mK.f_wait nm_wait Ny ?_
 rotate_left 3
 iterate 2 rfl
 .k_ne
 .rfl
 intro qa4 qa1;replace hp:=hp.rely rfl qf qa1;clear qa1;walk_nrm;rw[Lu]
 have Py:Beside (cfg Mu Wg 90 N J ro Anch) ((cfg Mu Wg 90 N J ro Anch).Zs 2) own:=
  ⟨λb hb h=>h.elim (hp.env.own b hb).2.1 (hp.env.own b hb).2.2.1, λb hb h=>h.elim (hp.env.rs b hb).1 (hp.env.rs b hb).2, λb i h=>by obtain⟨_,_,_,h⟩:=h;exact az h⟩
 refine ad9 (P:=Tryz.prog) (L:=Tryz.link) (C:=cfg Mu Wg 90 N J ro Anch) (W0:=qa4) Tryz.mK rfl (FW hne) Py (λs Gl D Dc dD W w hw hjn hr=>?_) qa4 ⟨dM.refl _,hp.env.wl⟩;replace hp:=hp.rely rfl qf hw.1
 have vy:JW Mu Wg bs bm bf ro ss n (N 0) (N 1) Gl W:=by have h1:J s.b.c0 s.b.c1 Gl W:=hjn.J;have h2:s.b.c0=N 0∧s.b.c1=N 1:=hjn.fin;rw[h2.1,h2.2,hJ]at h1;exact h1
 have hbs:Bs iM xK dD W:=⟨hp.base.tape,hp.base.out,hp.base.os,hp.base.size,hp.base.kept, λb hb=>hjn.sub b (hp.base.sub b hb)⟩
 have Sz:∃A cap st eO found,Fd bs bm bf A cap st eO found dD W∧(∀a,A=some a->¬iM a.block)∧lq (fU ss n (iI ss n false).length (iI ss n true).length) st eO found:=by obtain⟨_,A,cap,st,eO,found,h1,h2⟩:=vy;rw[hN 0 (by omega),hN 1 (by omega)]at h2;exact⟨A,cap,st,eO,found,h1.sub hjn.an5, λa ha h=>hjn.dis _ (h1.sl.blk a ha).1 (hp.base.sub _ h),h2⟩
 clear vy hjn hp hw;have hF:dM Z0 dD w w:=dM.refl _;replace hbs:=hbs.rely hr
 replace Sz:∃A cap st eO found,Fd bs bm bf A cap st eO found dD w∧(∀a,A=some a->¬iM a.block)∧lq (fU ss n (iI ss n false).length (iI ss n true).length) st eO found:=by obtain⟨A,cap,st,eO,found,h1,h2⟩:=Sz;exact⟨A,cap,st,eO,found,h1.keep hr.own,h2⟩
 clear hr;refine dG (n:=60) ?_
 walk_nrm
 u_c stepG_region_end eH hF
 refine cz λqa3 qa7=>?_
 replace hF:=eH hF qa7;clear qa7;refine Gw.stop λqa8 qad=>At.of_law ⟨rfl, λ_=>rfl, λs hs hf=>?_⟩
 replace hF:=eH hF qad;rw[aj (by rfl)];show Anch _ _ _;rw[hA];refine⟨?_,hbs.rely hF,?_⟩
 .obtain⟨A,cap,st,eO,found,h1,h2⟩:=Sz;exact⟨A,cap,st,eO,found,h1.keep hF.own,h2⟩
 .unfold Xo;simp only[pd,lQ,fE,jF,Tryz.f19,ak,Nat.reduceEqDiff,if_true,if_false,reduceIte];exact⟨_,rfl,rfl,rfl,rfl,rfl,rfl⟩
end
end
section
attribute [local instance] noSh gX
def LA(Post:Value->World->Prop)(b:dO)(dR:Nat->Prop)(W0:World)(fT:Frame)(K':List Frame):Prop:=
 ∀(mJ dD:Nat->Prop)(W':World)(A:Option Addr)(cap:Nat)(st:List Int)(eO found:Bool),lq (fU (fA b (-1)) b.steps.length (iI (fA b (-1)) b.steps.length false).length (iI (fA b (-1)) b.steps.length true).length) st eO found->Sl dD W' A st->(∀a,A=some a->W0.heap.size<=a.block)->st.length<=16->
  W'.tape=W0.tape->W'.output=W0.output->OsLater W0.os W'.os->W0.heap.size<=W'.heap.size->(∀b,dR b->W'.heap[b]?=W0.heap[b]?)->(∀b,dR b->dD b)->(∀b,dD b->dR b∨W0.heap.size<=b)->(∀b,dD b->b<W'.heap.size)->
   iF Tryz.prog Post mJ dD (G (fT.finish (.tuple #[.slice A st.length cap,.bool eO,.bool found,.int .i64 0])) K') W'
section
variable {dR own:Nat->Prop} {W0 W:World} {b:dO} {v:gJ} {fT:Frame} {K':List Frame} {Post:Value->World->Prop} {dead:Nat->Prop}
def TH{bs bm bf:Nat}{ss:List eX}{g:Goroutine}(hss:ss=fA b (-1))(hk:LA Post b dR W0 fT K')(hA:DV fT K' bs bm bf ss b.steps.length dR W0 own g W)(hlt:∀b,own b->b<W.heap.size)(hup:∀b,own b->dR b∨W0.heap.size<=b):iF Tryz.prog Post dead own g W:=by obtain⟨⟨A,cap,st,eO,found,hf,hfr,iq⟩,hbs,T,h2,h3,h4,h5,hsz,rfl⟩:=hA;subst hss;refine iF.walk (ar1 h2 h3 h4 h5 hsz ⟨hf.gs,hf.gm,hf.gf,hf.vs,hf.vm,hf.vf⟩ λW' hs=>.stop λW2 hr=>?_) rfl rfl;replace hs:=hs.rely hr;have hr':dM Z0 own W W2:=⟨hs.tape,hs.out,hs.os,hs.size,hs.kept, λ_ h=>az h, λ_ h=>az h, λ_ _ h=>az h⟩;exact hk dead own W2 A cap st eO found iq (hf.sl.rely hr') (λa ha=>(hup _ (hf.sl.blk a ha).1).resolve_left (hfr a ha)) hf.len (hs.tape.trans hbs.tape) (hs.out.trans hbs.out) (hbs.os.trans hs.os) (aS hbs.size hs.size) (λx hx=>(hs.kept x (hbs.sub x hx)).trans (hbs.kept x hx)) hbs.sub hup λx hx=>aK (hlt x hx) hs.size
def Zy{bx bs bm bf cw Mu Wg cb sb bw:Nat}{A:Option Addr}{cap:Nat}{e:TypeId}{fr:Nat×Nat}{sL:List (Nat×Obj)}(hlt:∀a,dR a->a<W0.heap.size)(ja:Tryz.prog.globals.size<W0.heap.size)(hn:b.steps.length<=15)(hnd:dZ b (-1)=b.steps.length+1)(hk:LA Post b dR W0 fT K')
 (S:Sn dR W0 (kR b v bx bs bm bf cw Mu Wg cb sb bw A cap e fr sL) own W) (hat:jG W W.heap.size bw (fA b (-1)) b.steps.length (dZ b (-1)) A cap) (hsL:∀a,A=some a->∃cur e fr,(a.block,.cells cur e fr)∈sL∧∀x∈cur,eF x=true) {w:World} (hw:dM Z0 own W w):
 xG fT K' bs bm bf cw Mu Wg cb sb 0 λg=>iF Tryz.prog Post dead own g w:=by
 intro j0 j1 j6 j11 j12 j13 Zi Zj M9 Na Nb Nc Nf Ng Nh Ni Nj Nk Nl Nn Np Nq Nr;obtain⟨ss,hss⟩:∃ss,ss=fA b (-1):=⟨_,rfl⟩;obtain⟨n,hnn⟩:∃n,n=b.steps.length:=⟨_,rfl⟩
 replace hat:jG w w.heap.size bw ss n (n+1) A cap:=by rw[hss,hnn, <-hnd];refine si hat (hw.own _ (S.has (bw,.cells #[.slice A (fA b (-1)).length cap,.int .i64 (b.steps.length:Int),.int .i64 (dZ b (-1):Int)] e fr) (by simp[kR])).1) (λa ha _=>?_) hw.size;obtain⟨cur,e2,Qv,k1,_⟩:=hsL a ha;exact hw.own _ (S.has (a.block,.cells cur e2 Qv) (by simp[kR,k1])).1
 replace S:=S.rely hw;clear hw
 have hne:Mu≠Wg:=by have :=S.nd;simp[kR]at this;omega
 obtain⟨ro,hro⟩:∃ro:Nat->Prop,ro= λx=>x=cw∨x=cb∨x=bw∨∃a,A=some a∧x=a.block:=⟨_,rfl⟩
 obtain⟨Gl,ua⟩:∃Gl:Nat->Prop,Gl= λx=>x=bs∨x=bm∨x=bf:=⟨_,rfl⟩
 refine iF.phase (S:=(cfg Mu Wg 90 (λk=>(iI ss n (decide (k=1))).length) (JW Mu Wg bs bm bf ro ss n) ro (DV fT K' bs bm bf ss n dR W0)).sys) (an3 (FW hne) (Q0 (.inl rfl) λc0 c1 G w w' h hk=>JW.keep h hk)) (λh1 h2 h3 h4=>ad5 h1 h2 h3 h4) rfl rfl (λW1 hr hd ho=>?_)
 replace hat:jG W1 W1.heap.size bw ss n (n+1) A cap:=by refine si hat (hr.own _ (S.has (bw,.cells #[.slice A (fA b (-1)).length cap,.int .i64 (b.steps.length:Int),.int .i64 (dZ b (-1):Int)] e fr) (by simp[kR])).1) (λa ha _=>?_) hr.size;obtain⟨cur,e2,Qv,k1,_⟩:=hsL a ha;exact hr.own _ (S.has (a.block,.cells cur e2 Qv) (by simp[kR,k1])).1
 replace S:=S.rely hr;clear hr;have nd:=S.nd;simp[kR]at nd;obtain⟨⟨s1,s2,s3,s4,s5,s6,s7,s8,s9,s10⟩,⟨c1,c2,c3,c4,c5,c6,c7,c8,c9⟩,⟨g1,g2,g3,g4,g5,g6,g7,g8⟩,⟨u1,u2,u3,u4,u5,u6,u7⟩,⟨w1,w2,w3,w4,w5,w6⟩,⟨x1,x2,x3,x4,x5⟩,wy⟩:=nd;rw[List.nodup_append]at wy;obtain⟨_,n1,n2⟩:=wy;simp at n1;have xl:=S.has (sb,.cells #[.bool false,.bool true] 4) (by simp[kR]);have Fl:=S.has (cb,.cells #[.func (.func 35) #[] #[.pointer (some ⟨bs,0,none⟩),.pointer (some ⟨bf,0,none⟩),.pointer (some ⟨bm,0,none⟩)]] 94) (by simp[kR]);have wa:=S.has (Wg,.cells #[.int .u64 0,.int .u32 0] 90) (by simp[kR]);have xa:=S.has (Mu,.cells #[.int .i32 0,.int .u32 0] 83) (by simp[kR]);have im:=S.has (cw,.cells #[.pointer (some ⟨bw,0,none⟩)] 75) (by simp[kR]);have Th:=S.has (bw,.cells #[.slice A (fA b (-1)).length cap,.int .i64 (b.steps.length:Int),.int .i64 (dZ b (-1):Int)] e fr) (by simp[kR]);have ce:=S.has (bf,.cells #[.bool false] 4) (by simp[kR]);have ee:=S.has (bm,.cells #[.bool false] 4) (by simp[kR]);have ie:=S.has (bs,.cells #[.slice none 0 0] 22) (by simp[kR]);have Td:=S.cell (b:=cw) (v:=.pointer (some ⟨bw,0,none⟩)) (e:=75) (by simp[kR]);have VI:=S.cell (b:=cb) (v:=.func (.func 35) #[] #[.pointer (some ⟨bs,0,none⟩),.pointer (some ⟨bf,0,none⟩),.pointer (some ⟨bm,0,none⟩)]) (e:=94) (by simp[kR]);dsimp only at xl Fl wa xa im Th ce ee ie
 have hA:∀a,A=some a->own a.block∧W0.heap.size<=a.block∧(∃cur e fr,W1.heap[a.block]?=some (.cells cur e fr)∧∀x∈cur,eF x=true)∧a.block≠Mu∧a.block≠Wg∧a.block≠bs∧a.block≠bm∧a.block≠bf∧a.block≠sb:= λa ha=>by obtain⟨cur,e2,Qv,k1,k2⟩:=hsL a ha;have m:=S.has (a.block,.cells cur e2 Qv) (by simp[kR,k1]);have k3:a.block∈List.map Prod.fst sL:=List.mem_map.2 ⟨_,k1,rfl⟩;exact⟨m.1,m.2.1,⟨cur,e2,Qv,m.2.2,k2⟩, λh=>u3 _ (h ▸ k1), λh=>g4 _ (h ▸ k1),n2 _ k3 bs (by simp),n2 _ k3 bm (by simp),n2 _ k3 bf (by simp), λh=>s6 _ (h ▸ k1)⟩
 have hroF:∀x,ro x->own x∧W0.heap.size<=x∧x≠Mu∧x≠Wg∧x≠bs∧x≠bm∧x≠bf∧x≠sb:= λx hx=>by
  rw[hro]at hx;rcases hx with rfl|rfl|rfl|⟨a,ha,rfl⟩
  .exact⟨im.1,im.2.1,Ne.symm u1,Ne.symm g2,w5,w4,w3,Ne.symm s4⟩
  .exact⟨Fl.1,Fl.2.1,c2,c1,c8,c7,c6,Ne.symm s1⟩
  .exact⟨Th.1,Th.2.1,Ne.symm u2,Ne.symm g3,x4,x3,x2,Ne.symm s5⟩
  .obtain⟨h1,h2,_,h3⟩:=hA a ha;exact⟨h1,h2,h3⟩
 have JE:∀x,Gl x->own x∧W0.heap.size<=x∧x≠Mu∧x≠Wg∧x≠sb:= λx hx=>by
  rw[ua]at hx;rcases hx with rfl|rfl|rfl
  .exact⟨ie.1,ie.2.1,Ne.symm u6,Ne.symm g7,Ne.symm s9⟩
  .exact⟨ee.1,ee.2.1,Ne.symm u5,Ne.symm g6,Ne.symm s8⟩
  .exact⟨ce.1,ce.2.1,Ne.symm u4,Ne.symm g5,Ne.symm s7⟩
 have yy:∀x,ro x->¬Gl x:= λx hx hg=>by
  obtain⟨_,_,_,_,h1,h2,h3,_⟩:=hroF x hx;rw[ua]at hg;rcases hg with h|h|h
  .exact h1 h
  .exact h2 h
  .exact h3 h
 have hltW:=S.lt;have hup:=S.kept.new;obtain⟨mD,hown1⟩:∃mD:Nat->Prop,mD= λx=>own x∧¬(x=Mu∨x=Wg)∧¬ro x∧¬Gl x:=⟨_,rfl⟩
 have ho1:∀x,mD x->own x∧¬(x=Mu∨x=Wg)∧¬ro x∧¬Gl x:= λx hx=>by rw[hown1]at hx;exact hx
 have ho0:∀x,dR x->mD x:= λx hx=>by
  have hx':=hlt x hx;rw[hown1];refine⟨S.kept.sub x hx, λh=>?_, λh=>?_, λh=>?_⟩
  .rcases h with rfl|rfl
   .have :=xa.2.1;omega
   .have :=wa.2.1;omega
  .have :=(hroF x h).2.1;omega
  .have :=(JE x h).2.1;omega
 have ar2:mD sb:=by rw[hown1];exact⟨xl.1, λh=>h.elim s3 s2, λh=>(hroF sb h).2.2.2.2.2.2.2 rfl, λh=>(JE sb h).2.2.2.2 rfl⟩
 have hp:HP dR W0 Mu Wg cw cb bs bm bf bw sb ss n mD ro W1:=by
  refine⟨by rw[hro];exact .inl rfl,by rw[hro];exact .inr (.inl rfl),by rw[hro];exact .inr (.inr (.inl rfl)),Td,VI,⟨A,cap,e,fr,?_,hat, λa ha=>⟨by rw[hro];exact .inr (.inr (.inr ⟨a,ha,rfl⟩)),(hA a ha).2.2.1⟩⟩,ar2, λj hj=>?_,
   ⟨λx hx=>⟨(hroF x hx).2.2.1,(hroF x hx).2.2.2.1⟩, λx hx=>?_, λx hx=>hltW x (hroF x hx).1,hltW _ xa.1,hltW _ wa.1,aK ja S.kept.rely.size,⟨0,0,wa.2.2⟩⟩,⟨0,0,xa.2.2⟩,⟨S.kept.rely.tape,S.kept.rely.out,S.kept.rely.os,S.kept.rely.size,S.kept.rely.own,ho0⟩⟩
  .rw[hss,hnn, <-hnd];exact Th.2.2
  .have hc:∀j,W1.cell? ⟨sb,j,none⟩=(#[.bool false,.bool true]:Array Value)[j]?:= λj=>by
    unfold World.cell?;simp only[xl.2.2];cases(#[.bool false,.bool true]:Array Value)[j]?<;>rfl
   rw[hc]
   match j,hj with
   |0,_=>rfl
   |1,_=>rfl
  .obtain⟨h1,h2,h3,_⟩:=ho1 x hx;exact⟨hltW x h1, λh=>h2 (.inl h), λh=>h2 (.inr h),h3⟩
 have uD:bs≠bm∧bs≠bf∧bm≠bf:=by refine⟨λh=>?_, λh=>?_, λh=>?_⟩<;>(subst h;simp at n1)
 have hn':n<=15:=hnn ▸ hn;clear n1 n2 s1 s2 s3 s4 s5 s6 s7 s8 s9 s10 c1 c2 c3 c4 c5 c6 c7 c8 c9 g1 g2 g3 g4 g5 g6 g7 g8 u1 u2 u3 u4 u5 u6 u7 w1 w2 w3 w4 w5 w6 x1 x2 x3 x4 x5;refine⟨mD,.st .Ot 0,⟨0,0,0,false, λ_=>false,⟨0,0,0,0,false⟩⟩,ro,Gl, λ_=>False, λx=>x<W1.heap.size∧¬(x=Mu∨x=Wg)∧¬own x,⟨λx hx=>?_, λx hx=>?_, λx hx=>?_, λx hx=>?_, λx hx=>?_, λx hx=>?_, λx hx=>az hx, λx hx=>hx, λx hx=>hx, λx k hx=>?_, λm hm=>U7 U8 (by show 0<2;omega) hm,rfl,rfl,⟨wa.2.2,xa.2.2⟩, λ_=>?_,.inr trivial, λh=>?_,?_⟩, λTt xC g W2 lU hanch hlt2=>?_⟩
 .by_cases h:x=Mu∨x=Wg
  .exact .inl h
  .exact .inr ⟨hd x hx,h, λh2=>(ho x h2).2 hx⟩
 .obtain⟨h1,h2,h3⟩:=hx;exact⟨h1,h2, λh=>h3 (ho1 x h).1, λh=>h3 (hroF x h).1, λh=>h3 (JE x h).1, λh=>h⟩
 .rcases hx with rfl|rfl
  .exact hltW _ xa.1
  .exact hltW _ wa.1
 .obtain⟨h1,h2,h3,h4⟩:=ho1 x hx;exact⟨hltW x h1,h2,h3,h4, λh=>h⟩
 .exact⟨hltW x (hroF x hx).1, λh=>h.elim (hroF x hx).2.2.1 (hroF x hx).2.2.2.1⟩
 .exact⟨hltW x (JE x hx).1, λh=>h.elim (JE x hx).2.2.1 (JE x hx).2.2.2.1, λh=>yy x h hx⟩
 .obtain⟨_,_,_,h⟩:=hx;exact az h
 .show JW Mu Wg bs bm bf ro ss n 0 0 Gl W1;refine⟨λx hx=>⟨?_,(JE x hx).2.2.1,(JE x hx).2.2.2.1, λh=>yy x h hx⟩,none,0,[],false,false,⟨by rw[ua];exact .inl rfl,by rw[ua];exact .inr (.inl rfl),by rw[ua];exact .inr (.inr rfl),⟨22,ie.2.2⟩,⟨4,ee.2.2⟩,⟨4,ce.2.2⟩,⟨λa h=>(by cases h), λh=>absurd h (by simp)⟩,by simp⟩,.inl ⟨rfl,rfl,rfl,rfl⟩⟩;rw[ua]at hx;rcases hx with rfl|rfl|rfl
  .exact⟨_,ie.2.2⟩
  .exact⟨_,ee.2.2⟩
  .exact⟨_,ce.2.2⟩
 .cases h
 .unfold On;rw[aa (by show¬(false=true);simp)];have h2:= λown W hp=>ak2 (fT:=fT) (K':=K') (iM:=dR) (xK:=W0) (own:=own) (W:=W) (Mu:=Mu) (Wg:=Wg) (cw:=cw) (cb:=cb) (bs:=bs) (bm:=bm) (bf:=bf) (bw:=bw) (sb:=sb) (N:= λk=>(iI ss n (decide (k=1))).length) (J:=JW Mu Wg bs bm bf ro ss n) (ro:=ro) (Anch:=DV fT K' bs bm bf ss n dR W0) hne rfl (λ_ _=>rfl) rfl hp
  have h1:= λown W hp=>TG (fT:=fT) (K':=K') (iM:=dR) (xK:=W0) (own:=own) (W:=W) (j:=1) (Mu:=Mu) (Wg:=Wg) (cw:=cw) (cb:=cb) (bs:=bs) (bm:=bm) (bf:=bf) (bw:=bw) (sb:=sb) (N:= λk=>(iI ss n (decide (k=1))).length) (J:=JW Mu Wg bs bm bf ro ss n) (ro:=ro) (Anch:=DV fT K' bs bm bf ss n dR W0) hne uD rfl (by omega) (λ_ _=>rfl) hn' h2 hp
  exact TG (fT:=fT) (K':=K') (iM:=dR) (xK:=W0) (j:=0) (Mu:=Mu) (Wg:=Wg) (cw:=cw) (cb:=cb) (bs:=bs) (bm:=bm) (bf:=bf) (bw:=bw) (sb:=sb) (N:= λk=>(iI ss n (decide (k=1))).length) (J:=JW Mu Wg bs bm bf ro ss n) (ro:=ro) (Anch:=DV fT K' bs bm bf ss n dR W0) hne uD rfl (by omega) (λ_ _=>rfl) hn' h1 hp _ _ _ _ _ _ _ _ _ _ _ _ _ _ _ _ _ _ _ _ _ _ _
 .have hanch:DV fT K' bs bm bf ss n dR W0 xC g W2:=hanch;subst hnn;refine TH hss hk hanch (λx hx=>(hlt2 x hx).1) λx hx=>?_
  obtain⟨h1,h2⟩:=hlt2 x hx
  by_cases h3:x<W1.heap.size
  .by_cases h4:own x
   .exact(hup x h4).imp (λh=>h) λh=>h.1
   .exact absurd (.inr ⟨h3, λh=>h2 (.inl h),h4⟩) h2
  .right;have :=S.kept.rely.size;omega
end
end
section
attribute [local instance] noSh gX
section
variable {As dR:Nat->Prop} {W0:World} {b:dO} {v:gJ} {fT:Frame} {K':List Frame} {Post:Value->World->Prop} {dead:Nat->Prop}
def cH(hb:lA dR W0 b v)(ja:Tryz.prog.globals.size<W0.heap.size)(hn:b.steps.length<=15)(hk:LA Post b dR W0 fT K'):
 iF Tryz.prog Post dead dR (G (Frame.enter Tryz.prog 19 #[dY b v] .normal) (fT::K')) W0:=by
 refine iF.lt rfl rfl λho=>iF.walk (aq8 hb (λa ha=>(ho a ha).1) ?_) rfl rfl
 intro bx bs bm bf cw Mu Wg cb sb bw A cap e fr sL own W S hat hsL w hw j0 j1 j6 j11 j12 j13 Zi Zj M9 Na Nb Nc Nf Ng Nh Ni Nj Nk Nl Nn Np Nq Nr;exact .stop λW1 hr=>Zy (λa ha=>(ho a ha).1) ja hn (aa (by omega)) hk S hat hsL (hw.trans hr) _ _ _ _ _ _ _ _ _ _ _ _ _ _ _ _ _ _ _ _ _ _ _
def Zz(hb:sj As dR W0 b v)(ja:Tryz.prog.globals.size<W0.heap.size)(hs:b.small)(hc0:fG b=0)(hk:LA Post b dR W0 fT K'):
 iF Tryz.prog Post dead dR (G (Frame.enter Tryz.prog 19 #[dY b v] .normal) (fT::K')) W0:=
 iF.lt rfl rfl λho=>cH (hb.p (λa ha=>(ho a ha).1) ja hs hc0) ja (by have :=(lM hs hc0).n8;omega) hk
end
end
end Go.Proofs.Tryz
namespace Go.Proofs.Tryz
open Go Go.Conc Go.ConcN Go.ConcM Go.RowKit Go.Conc.Lib Go.ConcR.Gen cS
section
attribute [local instance] noSh gX
def l5:List FuncId:=[5,20,22,8,15,11,16,17,18,19,21,47,48,49,50,51,26,27,32,33,34,52,86,57,87,88,89,55,56,58,61,62,63,64,90,105,91,92,93,94,95,106,107,108,109,117]
def S5(g:FuncId):Bool:=l5.contains g
def ak4:l5.all (EK ji S5 S5)=true:=by kernel_rfl
def TJ(A:Nat->Bool):kL ji (FA S5 S5 (fe ji S5 S5) A):=
 Mr (λg hg=>bF.1 ak4 g (by simpa[S5]using hg)) (λ_ h=>h) A
def ak5:fe ji S5 S5 uf=true:=by kernel_rfl
def ak6:fe ji S5 S5 W9=true:=by kernel_rfl
def My:S5 5=true:=by kernel_rfl
def V5:ji.funcs[5]?=some Tryz.f5:=by unfold ji;rw[zg Tryz.prog _ (by decide)];exact Tryz.func5
def lm(x y:List Int×Bool):Bool:=decide (x.1.length<y.1.length)||(decide (x.1.length=y.1.length)&&(decide (jq x.1 y.1<0)||(decide (x.1=y.1)&&!x.2&&y.2)))
def ZA{x y:List Int×Bool}(h:lm x y=true):Lt x y:=by
 unfold lm at h;unfold Lt;simp only[Bool.or_eq_true,bB,decide_eq_true_eq,Bool.not_eq_true']at h;rcases h with h|⟨h1,h2|⟨⟨h2,h3⟩,h4⟩⟩
 .exact .inl h
 .exact .inr ⟨h1,.inl ((zZ _ _).1.1 h2)⟩
 .exact .inr ⟨h1,.inr ⟨h2,h3,h4⟩⟩
def PE:(fU (fA lT (-1)) 4 (iI (fA lT (-1)) 4 false).length (iI (fA lT (-1)) 4 true).length).all (λx=>decide (x=([2,3],true))||lm ([2,3],true) x)=true:=by kernel_rfl
def V6:(fU (fA lT (-1)) 4 (iI (fA lT (-1)) 4 false).length (iI (fA lT (-1)) 4 true).length).contains ([2,3],true)=true:=by kernel_rfl
def TK{st:List Int}{eO found:Bool}(h:lq (fU (fA lT (-1)) lT.steps.length (iI (fA lT (-1)) lT.steps.length false).length (iI (fA lT (-1)) lT.steps.length true).length) st eO found):st= [2,3]∧eO=true∧found=true:=by
 have h2:lq (fU (fA lT (-1)) 4 (iI (fA lT (-1)) 4 false).length (iI (fA lT (-1)) 4 true).length) st eO found:=h;have hm:([2,3],true)∈fU (fA lT (-1)) 4 (iI (fA lT (-1)) 4 false).length (iI (fA lT (-1)) 4 true).length:=by simpa using V6
 have ha:=bF.1 PE;rcases h2 with⟨_,h3,_⟩|⟨hf,h3,h4⟩
 .rw[h3]at hm;cases hm
 .have h5:=ha _ h3;simp only[Bool.or_eq_true,decide_eq_true_eq]at h5;rcases h5 with h5|h5
  .cases h5;exact⟨rfl,rfl,hf⟩
  .exact absurd (ZA h5) (h4 _ hm)
def V7{F F':Fit}{f:Nat->Nat}(hV:F'.V=F.V)(hA:∀b,F.A b=true->F'.A (f b)=true){fn:Fn}(h:Wi F fn=true):Wi F' (T9 f fn)=true:=by
 cases fn with
 |func g=>show F'.V g=true;rw[hV];exact h
 |yield l=>exact hA l h
 |_=>exact h
mutual
def LB{F F':Fit}{f:Nat->Nat}(hV:F'.V=F.V)(hA:∀b,F.A b=true->F'.A (f b)=true):∀v:Value,vs F v=true->vs F' (rv f v)=true
 | .bool _,_=>by simp
 | .int _ _,_=>by simp
 | .float _ _,h=>by simp at h
 | .complex _ _ _,h=>by simp at h
 | .string _,_=>by simp
 | .pointer none,_=>by simp
 | .pointer (some a),h=>by simp at h⊢;exact hA _ h
 | .slice none _ _,_=>by simp
 | .slice (some a) l c,h=>by rw[fD,ay,gY,um];rw[gY,um]at h;exact hA _ h
 | .map none,_=>by rw[rv,vs];rfl
 | .map (some r),h=>by rw[rv,vs];rw[vs]at h;exact hA _ h
 | .chan r,h=>by rw[rv,vs];rw[vs]at h;cases r with |none=>rfl|some r=>cases h
 | .func fn a b,h=>by rw[vs,bB,bB]at h;rw[rv,vs,bB,bB];exact⟨⟨V7 hV hA h.1.1,Bz hV hA a h.1.2⟩,Bz hV hA b h.2⟩
 | .nilFunc,_=>by simp
 | .iface t v,h=>by rw[vs]at h;rw[rv,vs];exact LB hV hA v h
 | .nilIface,_=>by simp
 | .agg a,h=>by rw[vs]at h;rw[rv,vs];exact Bz hV hA a h
 | .tuple a,h=>by rw[vs]at h;rw[rv,vs];exact Bz hV hA a h
def Bz{F F':Fit}{f:Nat->Nat}(hV:F'.V=F.V)(hA:∀b,F.A b=true->F'.A (f b)=true):∀a:Array Value,JK F a=true->JK F' (LU f a)=true
 |⟨l⟩,h=>by rw[JK]at h;rw[LU,JK];exact Nz hV hA l h
def Nz{F F':Fit}{f:Nat->Nat}(hV:F'.V=F.V)(hA:∀b,F.A b=true->F'.A (f b)=true):∀l:List Value,JH F l=true->JH F' (GY f l)=true
 | [],_=>by rw[GY,JH]
 |v::l,h=>by rw[JH,bB]at h;rw[GY,JH,bB];exact⟨LB hV hA v h.1,Nz hV hA l h.2⟩
end
def dx{F:Fit}{v:Value}{l:List Value}(h:vs F v=true)(k:VS F l.toArray):VS F (v::l).toArray:= λx hx=>by
 rcases bD.1 (by simpa using hx)with rfl|hx
 .exact h
 .exact k x (by simpa using hx)
def LD{F:Fit}:VS F (List.toArray []):= λx hx=>by simp at hx
section
variable {n:Nat} {w' W':World} {f:Nat->Nat} {dD:Nat->Prop}
def LF{k m b off:Nat}{F:Nat->Nat->Value}(hm:Made n w' f dD W')(hb:n<=b)(hlt:∀b,dD b->b<W'.heap.size)(h:Rd w' w'.heap.size k (some ⟨b,off,none⟩) m F)(hF:∀i j,rv f (F i j)=F i j):Rd W' W'.heap.size k (some ⟨f b,off,none⟩) m F:= λhn=>by
 obtain⟨b',off',e,h1,h2⟩:=h hn;cases e
 exact⟨f b,off,rfl,hlt _ (hm.ge b hb h1).2.2, λi j hi hj=>by have :=hm.cell b _ _ hb (h2 i j hi hj);rw[hF]at this;exact this⟩
def se(L:List Nat)(f:Nat->Nat)(x:Nat):Prop:=∃b∈L,x=f b
def Fm(L:List Nat)(w:World):Prop:=∀b∈L,∃c e fr,w.heap[b]?=some (.cells c e fr)∧∀x∈c,eF x=true∨∃p l cp,x=.slice p l cp∧∀q,p=some q->q.block∈L
def NA{L:List Nat}(hm:Made n w' f dD W')(hc:Fm L w')(hn:∀b∈L,n<=b)(a:Nat)(h:se L f a):∃c e fr,W'.heap[a]?=some (.cells c e fr)∧∀x∈c,eF x=true∨∃p l cp,x=.slice p l cp∧∀q,p=some q->se L f q.block:=by
 obtain⟨b,hb,rfl⟩:=h;obtain⟨c,e,fr,h1,h2⟩:=hc b hb;obtain⟨fr',h3⟩:=hm.blk b c e fr (hn b hb) h1;refine⟨_,_,_,h3, λx hx=>?_⟩;obtain⟨y,hy,rfl⟩:=Array.mem_map.1 hx;rcases h2 y hy with h4|⟨p,l,cp,rfl,h4⟩
 .rw[(iP (F:=⟨λ_=>false, λ_=>false, λ_=>false, λ_=>false⟩) (f:=f) h4).1];exact .inl h4
 .refine .inr ⟨p.map (ra f),l,cp,by simp, λq hq=>?_⟩;cases p with
  |none=>cases hq
  |some p=>
   cases hq;exact⟨p.block,h4 p rfl,rfl⟩
def NB{L:List Nat}(hm:Made n w' f dD W')(hc:Fm L w')(hn:∀b∈L,n<=b)(a:Nat)(h:se L f a):dD a:=by obtain⟨b,hb,rfl⟩:=h;obtain⟨c,e,fr,h1,h2⟩:=hc b hb;exact(hm.ge b (hn b hb) (aI.1 h1).1).2.2
def Bj(f:Nat->Nat)(n g q:Nat):gJ where
 ah:=some ⟨f (n+1),0,none⟩
 ch:=2
 ap:=some ⟨f (n+2),0,none⟩
 cp:=5
 iT:=some ⟨f (n+13),0,none⟩
 cs:=4
 ac:=some ⟨f g,0,none⟩
 cc:=q
 sv:= λi=>match i with
  |0=>⟨none,0,some ⟨f (n+3),0,none⟩,1⟩
  |1=>⟨some ⟨f (n+5),0,none⟩,1,some ⟨f (n+6),0,none⟩,2⟩
  |2=>⟨none,0,some ⟨f (n+8),0,none⟩,1⟩
  |_=>⟨some ⟨f (n+10),0,none⟩,2,some ⟨f (n+11),0,none⟩,1⟩
def TL{g q:Nat}(hm:Made n w' f dD W')(hlt:∀b,dD b->b<W'.heap.size)(ya:∀k,k<18->w'.heap[n+k]?=(La n)[k]?)(hg:n<=g)(hgc:∀j,j<12->w'.cell? ⟨g,j,none⟩=some (.int .i64 (([0,105,110,2,90,90,4,14,16,1,14,20][j]?).getD 0)))(hq:4<=q):
 fC W' W'.heap.size lT (Bj f n g q):=by
 have hc:∀(k:Nat)(c:Array Value)(e:TypeId)(o:Nat)(v:Value),k<18->(La n)[k]?=some (.cells c e)->c[o]?=some v->W'.cell? ⟨f (n+k),o,none⟩=some (rv f v):= λk c e o v hk h1 h2=>by
  refine hm.cell (n+k) o v (by omega) ?_
  rw[ze ((ya k hk).trans h1),h2]
 have hl:∀k,k<18->f (n+k)<W'.heap.size:= λk hk=>by
  have:n+k<w'.heap.size:=by have h:=ya k hk;have h2:k<(La n).length:=hk;rw[aN h2]at h;exact(aI.1 h).1
  exact(hm.ge (n+k) (by omega) this).2.1
 have hgl:f g<W'.heap.size:=by have h:=hgc 0 (by omega);obtain⟨o,ho,_⟩:=cells_of_cell h;exact(hm.ge g hg (aI.1 ho).1).2.1
 refine⟨λ_=>⟨f (n+1),0,rfl,hl 1 (by omega), λi j hi hj=>?_⟩, λ_=>⟨f (n+2),0,rfl,hl 2 (by omega), λi j hi hj=>?_⟩, λ_=>⟨f (n+13),0,rfl,hl 13 (by omega), λi j hi hj=>?_⟩, λi s hs=>?_, λi s hs=>?_, λ_=>⟨f g,0,rfl,hgl, λi j hi hj=>?_⟩,aJ _,aJ _,aJ _,hq⟩
 .have hi:i<2:=hi;obtain rfl:j=0:=by omega
  obtain rfl|rfl:i=0∨i=1:=by omega
  all_goals exact(hc 1 _ _ _ _ (by omega) rfl rfl).trans (by simp;rfl)
 .have hi:i<5:=hi;obtain rfl:j=0:=by omega
  obtain rfl|rfl|rfl|rfl|rfl:i=0∨i=1∨i=2∨i=3∨i=4:=by omega
  all_goals exact(hc 2 _ _ _ _ (by omega) rfl rfl).trans (by simp;rfl)
 .have hi:i<4:=hi;obtain rfl|rfl|rfl|rfl:i=0∨i=1∨i=2∨i=3:=by omega
  all_goals obtain rfl|rfl|rfl|rfl|rfl|rfl|rfl:j=0∨j=1∨j=2∨j=3∨j=4∨j=5∨j=6:=by omega
  all_goals exact(hc 13 _ _ _ _ (by omega) rfl rfl).trans (by simp;rfl)
 .have hi:i<4:=(aY.1 hs).1;obtain rfl|rfl|rfl|rfl:i=0∨i=1∨i=2∨i=3:=by omega
  .cases hs;exactλh=>absurd h (by decide)
  .cases hs;refineλ_=>⟨f (n+5),0,rfl,hl 5 (by omega), λi j hi hj=>?_⟩
   have hi:i<1:=hi;obtain rfl:j=0:=by omega
   obtain rfl:i=0:=by omega
   exact(hc 5 _ _ _ _ (by omega) rfl rfl).trans (by simp)
  .cases hs;exactλh=>absurd h (by decide)
  .cases hs;refineλ_=>⟨f (n+10),0,rfl,hl 10 (by omega), λi j hi hj=>?_⟩
   have hi:i<2:=hi;obtain rfl:j=0:=by omega
   obtain rfl|rfl:i=0∨i=1:=by omega
   all_goals exact(hc 10 _ _ _ _ (by omega) rfl rfl).trans (by simp)
 .have hi:i<4:=(aY.1 hs).1;obtain rfl|rfl|rfl|rfl:i=0∨i=1∨i=2∨i=3:=by omega
  .cases hs;refineλ_=>⟨f (n+3),0,rfl,hl 3 (by omega), λi j hi hj=>?_⟩
   have hi:i<1:=hi;obtain rfl:j=0:=by omega
   obtain rfl:i=0:=by omega
   exact(hc 3 _ _ _ _ (by omega) rfl rfl).trans (by simp)
  .cases hs;refineλ_=>⟨f (n+6),0,rfl,hl 6 (by omega), λi j hi hj=>?_⟩
   have hi:i<2:=hi;obtain rfl:j=0:=by omega
   obtain rfl|rfl:i=0∨i=1:=by omega
   all_goals exact(hc 6 _ _ _ _ (by omega) rfl rfl).trans (by simp)
  .cases hs;refineλ_=>⟨f (n+8),0,rfl,hl 8 (by omega), λi j hi hj=>?_⟩
   have hi:i<1:=hi;obtain rfl:j=0:=by omega
   obtain rfl:i=0:=by omega
   exact(hc 8 _ _ _ _ (by omega) rfl rfl).trans (by simp)
  .cases hs;refineλ_=>⟨f (n+11),0,rfl,hl 11 (by omega), λi j hi hj=>?_⟩
   have hi:i<1:=hi;obtain rfl:j=0:=by omega
   obtain rfl:i=0:=by omega
   exact(hc 11 _ _ _ _ (by omega) rfl rfl).trans (by simp)
 .have hi:i<4:=hi;have h:= λj hj=>hm.cell g j _ hg (hgc j hj)
  obtain rfl|rfl|rfl|rfl:i=0∨i=1∨i=2∨i=3:=by omega
  all_goals obtain rfl|rfl|rfl:j=0∨j=1∨j=2:=by omega
  all_goals exact(h _ (by omega)).trans (by simp;rfl)
def PG{g q:Nat}{L:List Nat}(hm:Made n w' f dD W')(hlt:∀b,dD b->b<W'.heap.size)(hcl:Fm L w')(TM:∀b∈L,n<=b)(hk:∀k,1<=k->k<=17->n+k∈L)(fz:g∈L)(ya:∀k,k<18->w'.heap[n+k]?=(La n)[k]?)(hgc:∀j,j<12->w'.cell? ⟨g,j,none⟩=some (.int .i64 (([0,105,110,2,90,90,4,14,16,1,14,20][j]?).getD 0)))(hq:4<=q):
 sj (se L f) dD W' lT (Bj f n g q):=by
 refine⟨TL hm hlt ya (TM g fz) hgc hq,NB hm hcl TM,NA hm hcl TM, λp hp=>?_, λi s hs p hp=>?_⟩
 .rcases hp with hp|hp|hp|hp
  all_goals cases hp
  .exact⟨_,hk 1 (by omega) (by omega),rfl⟩
  .exact⟨_,hk 2 (by omega) (by omega),rfl⟩
  .exact⟨_,hk 13 (by omega) (by omega),rfl⟩
  .exact⟨_,fz,rfl⟩
 .have hi:i<4:=(aY.1 hs).1;obtain rfl|rfl|rfl|rfl:i=0∨i=1∨i=2∨i=3:=by omega
  all_goals rcases hp with hp|hp
  all_goals cases hp
  all_goals exact⟨_,hk _ (by omega) (by omega),rfl⟩
end
end
section
attribute [local instance] noSh gX
def TN:(Tryz.f19.name== "runtime.NumGoroutine")=false:=by kernel_rfl
def ZC(T:Array Value)(h:T.size=160):T= #[T.getD 0 undef,T.getD 1 undef,T.getD 2 undef,T.getD 3 undef,T.getD 4 undef,T.getD 5 undef,T.getD 6 undef,T.getD 7 undef,T.getD 8 undef,T.getD 9 undef,T.getD 10 undef,T.getD 11 undef,T.getD 12 undef,T.getD 13 undef,T.getD 14 undef,T.getD 15 undef,T.getD 16 undef,T.getD 17 undef,T.getD 18 undef,T.getD 19 undef,T.getD 20 undef,T.getD 21 undef,T.getD 22 undef,T.getD 23 undef,T.getD 24 undef,T.getD 25 undef,T.getD 26 undef,T.getD 27 undef,T.getD 28 undef,T.getD 29 undef,T.getD 30 undef,T.getD 31 undef,T.getD 32 undef,T.getD 33 undef,T.getD 34 undef,T.getD 35 undef,T.getD 36 undef,T.getD 37 undef,T.getD 38 undef,T.getD 39 undef,T.getD 40 undef,T.getD 41 undef,T.getD 42 undef,T.getD 43 undef,T.getD 44 undef,T.getD 45 undef,T.getD 46 undef,T.getD 47 undef,T.getD 48 undef,T.getD 49 undef,T.getD 50 undef,T.getD 51 undef,T.getD 52 undef,T.getD 53 undef,T.getD 54 undef,T.getD 55 undef,T.getD 56 undef,T.getD 57 undef,T.getD 58 undef,T.getD 59 undef,T.getD 60 undef,T.getD 61 undef,T.getD 62 undef,T.getD 63 undef,T.getD 64 undef,T.getD 65 undef,T.getD 66 undef,T.getD 67 undef,T.getD 68 undef,T.getD 69 undef,T.getD 70 undef,T.getD 71 undef,T.getD 72 undef,T.getD 73 undef,T.getD 74 undef,T.getD 75 undef,T.getD 76 undef,T.getD 77 undef,T.getD 78 undef,T.getD 79 undef,T.getD 80 undef,T.getD 81 undef,T.getD 82 undef,T.getD 83 undef,T.getD 84 undef,T.getD 85 undef,T.getD 86 undef,T.getD 87 undef,T.getD 88 undef,T.getD 89 undef,T.getD 90 undef,T.getD 91 undef,T.getD 92 undef,T.getD 93 undef,T.getD 94 undef,T.getD 95 undef,T.getD 96 undef,T.getD 97 undef,T.getD 98 undef,T.getD 99 undef,T.getD 100 undef,T.getD 101 undef,T.getD 102 undef,T.getD 103 undef,T.getD 104 undef,T.getD 105 undef,T.getD 106 undef,T.getD 107 undef,T.getD 108 undef,T.getD 109 undef,T.getD 110 undef,T.getD 111 undef,T.getD 112 undef,T.getD 113 undef,T.getD 114 undef,T.getD 115 undef,T.getD 116 undef,T.getD 117 undef,T.getD 118 undef,T.getD 119 undef,T.getD 120 undef,T.getD 121 undef,T.getD 122 undef,T.getD 123 undef,T.getD 124 undef,T.getD 125 undef,T.getD 126 undef,T.getD 127 undef,T.getD 128 undef,T.getD 129 undef,T.getD 130 undef,T.getD 131 undef,T.getD 132 undef,T.getD 133 undef,T.getD 134 undef,T.getD 135 undef,T.getD 136 undef,T.getD 137 undef,T.getD 138 undef,T.getD 139 undef,T.getD 140 undef,T.getD 141 undef,T.getD 142 undef,T.getD 143 undef,T.getD 144 undef,T.getD 145 undef,T.getD 146 undef,T.getD 147 undef,T.getD 148 undef,T.getD 149 undef,T.getD 150 undef,T.getD 151 undef,T.getD 152 undef,T.getD 153 undef,T.getD 154 undef,T.getD 155 undef,T.getD 156 undef,T.getD 157 undef,T.getD 158 undef,T.getD 159 undef]:=by
 have h2:T=((List.range 160).map λi=>T.getD i undef).toArray:=by
  apply Array.ext
  .simp[h]
  .intro i h1 h3;simp[h1]
 exact h2
section
variable {As own:Nat->Prop} {W:World} {v:gJ} {bo:Nat} {c:Frame} {K:List Frame} {Post:Value->World->Prop} {dead:Nat->Prop}
def ar3(Post:Value->World->Prop)(own:Nat->Prop)(W:World)(v:gJ)(c:Frame)(K:List Frame)(t0 t1 t2 t3 t4 t5 t6 t7 t8 t9 t10 t11 t12 Hm Ym tW t16 t17 AW BW t20 t21 t22 t23 t24 t25 t26 t27 t28 t29 t30 t31 t32 t33 t34 t35 t36 t37 t38 t39 t40 t41 t42 t43 t44 t45 t46 t47 t48 t49 t50 t51 t52 t53 t54 t55 t56 t57 t58 t59 t60 t61 t62 t63 t64 t65 t66 t67 t68 t69 t70 t71 t72 t73 t74 t75 t76 t77 t78 t79 t80 GW t82 t83 t84 t85 t86 t87 fX t89 oX t91 NX t93 TX cY fY oY bZ pZ PA VA lB nB oB t105 pB t107 rB t109 sB tB DB KB PB cC t116 t117 dC t119 eC gC mC pC t124 AC CC t127 GC PC t130 t131 cD pD tD AD CD DD t138 t139 ID t141 MD t143 SD t145 t146 WD t148 cE dE eE t152 kE t154 tE t156 t157 zE t159:Value):Prop:=
 ∀(mJ dD:Nat->Prop)(W':World)(A:Option Addr)(cap:Nat),Sl dD W' A [2,3]->W'.tape=W.tape->W'.output=W.output->OsLater W.os W'.os->W.heap.size<=W'.heap.size->(∀b,own b->W'.heap[b]?=W.heap[b]?)->(∀b,own b->dD b)->(∀b,dD b->own b∨W.heap.size<=b)->(∀b,dD b->b<W'.heap.size)->
  iF Tryz.prog Post mJ dD (G ((base 5).at ⟨#[t0,t1,t2,t3,t4,t5,t6,t7,t8,t9,t10,.slice A 2 cap,.bool true,.bool true,.int .i64 0,tW,t16,t17,AW,BW,t20,t21,t22,t23,t24,t25,t26,t27,t28,t29,t30,t31,t32,t33,t34,t35,t36,t37,t38,t39,t40,t41,t42,t43,t44,t45,t46,t47,t48,t49,t50,t51,.tuple #[.slice A 2 cap,.bool true,.bool true,.int .i64 0],.agg #[.slice v.ah 2 v.ch,.slice v.ap 5 v.cp,.slice v.iT 4 v.cs,.slice v.ac 4 v.cc],.tuple #[.slice A 2 cap,.bool true,.bool true,.int .i64 0],.slice A 2 cap,.bool true,.bool true,.int .i64 0,t59,t60,t61,t62,t63,t64,t65,t66,t67,t68,t69,t70,t71,t72,t73,t74,t75,t76,t77,t78,t79,t80,GW,t82,t83,t84,t85,t86,t87,fX,t89,oX,t91,NX,t93,TX,cY,fY,oY,bZ,pZ,PA,VA,lB,nB,oB,t105,pB,t107,rB,t109,sB,tB,DB,KB,PB,cC,t116,t117,dC,t119,eC,gC,mC,pC,t124,AC,CC,t127,GC,PC,t130,t131,cD,pD,tD,AD,CD,DD,t138,t139,ID,t141,MD,t143,SD,t145,t146,WD,t148,cE,dE,eE,t152,kE,t154,tE,t156,t157,zE,t159],[]⟩ [.code W9]) (c::K)) W'
def ar4{fr:Nat×Nat}(hb:sj As own W lT v)(hlt:∀b,own b->b<W.heap.size)(ja:Tryz.prog.globals.size<W.heap.size)(Sy:own bo)(hbx:W.heap[bo]?=some (.cells #[.slice v.ah 2 v.ch,.slice v.ap 5 v.cp,.slice v.iT 4 v.cs,.slice v.ac 4 v.cc] 40 fr))(t0 t1 t2 t3 t4 t5 t6 t7 t8 t9 t10 t11 t12 Hm Ym tW t16 t17 AW BW t20 t21 t22 t23 t24 t25 t26 t27 t28 t29 t30 t31 t32 t33 t34 t35 t36 t37 t38 t39 t40 t41 t42 t43 t44 t45 t46 t47 t48 t49 t50 t51 t52 t53 t54 t55 t56 t57 t58 t59 t60 t61 t62 t63 t64 t65 t66 t67 t68 t69 t70 t71 t72 t73 t74 t75 t76 t77 t78 t79 t80 GW t82 t83 t84 t85 t86 t87 fX t89 oX t91 NX t93 TX cY fY oY bZ pZ PA VA lB nB oB t105 pB t107 rB t109 sB tB DB KB PB cC t116 t117 dC t119 eC gC mC pC t124 AC CC t127 GC PC t130 t131 cD pD tD AD CD DD t138 t139 ID t141 MD t143 SD t145 t146 WD t148 cE dE eE t152 kE t154 tE t156 t157 zE t159:Value)(h8:t8=.pointer (some ⟨bo,0,none⟩))(hk:ar3 Post own W v c K t0 t1 t2 t3 t4 t5 t6 t7 t8 t9 t10 t11 t12 Hm Ym tW t16 t17 AW BW t20 t21 t22 t23 t24 t25 t26 t27 t28 t29 t30 t31 t32 t33 t34 t35 t36 t37 t38 t39 t40 t41 t42 t43 t44 t45 t46 t47 t48 t49 t50 t51 t52 t53 t54 t55 t56 t57 t58 t59 t60 t61 t62 t63 t64 t65 t66 t67 t68 t69 t70 t71 t72 t73 t74 t75 t76 t77 t78 t79 t80 GW t82 t83 t84 t85 t86 t87 fX t89 oX t91 NX t93 TX cY fY oY bZ pZ PA VA lB nB oB t105 pB t107 rB t109 sB tB DB KB PB cC t116 t117 dC t119 eC gC mC pC t124 AC CC t127 GC PC t130 t131 cD pD tD AD CD DD t138 t139 ID t141 MD t143 SD t145 t146 WD t148 cE dE eE t152 kE t154 tE t156 t157 zE t159):
 Gw Tryz.prog true Z0 (λown g W=>iF Tryz.prog Post dead own g W) own (G ((base 5).at ⟨#[t0,t1,t2,t3,t4,t5,t6,t7,t8,t9,t10,t11,t12,Hm,Ym,tW,t16,t17,AW,BW,t20,t21,t22,t23,t24,t25,t26,t27,t28,t29,t30,t31,t32,t33,t34,t35,t36,t37,t38,t39,t40,t41,t42,t43,t44,t45,t46,t47,t48,t49,t50,t51,t52,t53,t54,t55,t56,t57,t58,t59,t60,t61,t62,t63,t64,t65,t66,t67,t68,t69,t70,t71,t72,t73,t74,t75,t76,t77,t78,t79,t80,GW,t82,t83,t84,t85,t86,t87,fX,t89,oX,t91,NX,t93,TX,cY,fY,oY,bZ,pZ,PA,VA,lB,nB,oB,t105,pB,t107,rB,t109,sB,tB,DB,KB,PB,cC,t116,t117,dC,t119,eC,gC,mC,pC,t124,AC,CC,t127,GC,PC,t130,t131,cD,pD,tD,AD,CD,DD,t138,t139,ID,t141,MD,t143,SD,t145,t146,WD,t148,cE,dE,eE,t152,kE,t154,tE,t156,t157,zE,t159],[]⟩ [.code W8]) (c::K)) W:=by
 subst h8;have HK:=dw hk;clear hk;have hnm:¬Z0.mute:= λh=>h
 simp only[W8,uf,Tryz.f5,fE,jF,ak,Nat.reduceEqDiff,if_true,if_false,reduceIte];have hF:dM Z0 own W W:=dM.refl _;refine dG (n:=60) ?_
 repeat w_nl eH
 refine cz λqa2 qa0=>?_
 replace hF:=eH hF qa0;clear qa0;refine Tm (v1:=.slice v.ah 2 v.ch) (v2:=.slice v.ap 5 v.cp) (v3:=.slice v.iT 4 v.cs) (v4:=.slice v.ac 4 v.cc) (o:=?_) (x:=?_) (bb:=bo) (e:=40) (fr:=fr) ?_ ?_ ?_ ?_ ?_ hnm (.inl Sy) ((hF.own _ Sy).trans hbx) ?_
 rotate_left 2
 iterate 2 rfl
 .k_ne
 iterate 2 rfl
 intro qa4 qa1;replace hF:=eH hF qa1;clear qa1;walk_nrm;refine nK (o:=?_) (args:=?_) (ats:=?_) ?_ ?_ ?_ ?_ Tryz.func19 TN JC ?_
 rotate_left 3
 iterate 2 rfl
 .k_ne
 .rfl
 intro qa3 qa7;replace hF:=eH hF qa7;clear qa7;walk_nrm;refine .stop λW3 hr3=>?_
 replace hF:=eH hF hr3;clear hr3;have hkp:Kept Z0 own W own W3:=⟨hF, λ_ h=>h, λ_ h=>.inl h⟩;refine Zz (b:=lT) (v:=v) (hb.kept hlt hkp) (aK ja hF.size) EW EU ?_
 intro mJ dD W' A cap st eO found iq hsl _ hlen a1 a2 a3 a4 a5 a6 a7 a8;obtain⟨rfl,rfl,rfl⟩:=TK iq;rw[Frame.finish_at];refine iF.walk ?_ rfl rfl
 have hZ:=hF;clear hF;have hF:dM Z0 dD W' W':=dM.refl _;refine dG (n:=100) ?_
 walk_nrm
 iterate 10 (w_nl eH)
 refine cz λqa3 qa7=>.stop λqa8 qad=>?_
 have hr:=eH (eH hF qa7) qad;have hnx:=HK.out mJ dD qa8 A cap (hsl.rely hr) (hr.tape.trans (a1.trans hZ.tape)) (hr.out.trans (a2.trans hZ.out)) ((hZ.os.trans a3).trans hr.os) (aS hZ.size (aS a4 hr.size)) (λb hb=>(hr.own b (a6 b hb)).trans ((a5 b hb).trans (hZ.own b hb))) a6 (λb hb=>(a7 b hb).imp id λh=>aS hZ.size h) (λb hb=>aK (a8 b hb) hr.size);simp only[W9,uf,Tryz.f5,fE,jF,ak,Nat.reduceEqDiff,if_true,if_false,reduceIte]at hnx;exact hnx
end
end
section
attribute [local instance] noSh gX
section
variable {As own:Nat->Prop} {W:World} {v:gJ} {bo:Nat} {c:Frame} {K:List Frame} {Post:Value->World->Prop} {dead:Nat->Prop} {A:Option Addr} {cap:Nat}
def ak8{m2 o2 q2 m4 o4 q4 m6 o6 q6:Nat}(hown:∀b,own b->b<W.heap.size)(ja:Tryz.prog.globals.size<W.heap.size)(hAs:∀b,As b->own b)(hin:∀a,As a->∃c e fr,W.heap[a]?=some (.cells c e fr)∧∀x∈c,eF x=true∨∃p l cp,x=.slice p l cp∧∀q,p=some q->As q.block)(hA:∀a,A=some a->As a.block)
 (g:Nat->Value) (hv:∀i,vs (FA S5 S5 (fe ji S5 S5) (Bd (iL As W.heap.size) W.heap.size)) (g i)=true) (bi:∀q,v.ah=some q∨v.ap=some q∨v.iT=some q∨v.ac=some q->As q.block)
 (g2:g 2=.slice (some ⟨m2,o2,none⟩) 5 q2) (g3:g 3=.int .i64 0) (g4:g 4=.slice (some ⟨m4,o4,none⟩) 4 q4) (g5:g 5=.int .i64 0) (g6:g 6=.slice (some ⟨m6,o6,none⟩) 2 q6) (g7:g 7=.int .i64 0) (g9:g 9=.int .i64 3) (g10:g 10=.int .i64 0)
 (r2:jR W (some ⟨m2,o2,none⟩) 5 (p8 qV)) (r4:jR W (some ⟨m4,o4,none⟩) 4 (yY qV)) (r6:xJ W W.heap.size (some ⟨m6,o6,none⟩) (zT qV 1)) (rp:xJ W W.heap.size A [2,3])
 (hk:∀(mJ dD:Nat->Prop)(W':World),W'.tape=W.tape->W'.output=W.output->OsLater W.os W'.os->W.heap.size<=W'.heap.size->(∀b,own b->W'.heap[b]?=W.heap[b]?)->(∀b,own b->dD b)->(∀b,dD b->own b∨W.heap.size<=b)->(∀b,dD b->b<W'.heap.size)->iF Tryz.prog Post mJ dD (G (c.finish (.bool true)) K) W'):
 iF Tryz.prog Post dead own (G ((base 5).at ⟨#[g 0,g 1,g 2,g 3,g 4,g 5,g 6,g 7,g 8,g 9,g 10,.slice A 2 cap,.bool true,.bool true,.int .i64 0,g 15,g 16,g 17,g 18,g 19,g 20,g 21,g 22,g 23,g 24,g 25,g 26,g 27,g 28,g 29,g 30,g 31,g 32,g 33,g 34,g 35,g 36,g 37,g 38,g 39,g 40,g 41,g 42,g 43,g 44,g 45,g 46,g 47,g 48,g 49,g 50,g 51,.tuple #[.slice A 2 cap,.bool true,.bool true,.int .i64 0],.agg #[.slice v.ah 2 v.ch,.slice v.ap 5 v.cp,.slice v.iT 4 v.cs,.slice v.ac 4 v.cc],.tuple #[.slice A 2 cap,.bool true,.bool true,.int .i64 0],.slice A 2 cap,.bool true,.bool true,.int .i64 0,g 59,g 60,g 61,g 62,g 63,g 64,g 65,g 66,g 67,g 68,g 69,g 70,g 71,g 72,g 73,g 74,g 75,g 76,g 77,g 78,g 79,g 80,g 81,g 82,g 83,g 84,g 85,g 86,g 87,g 88,g 89,g 90,g 91,g 92,g 93,g 94,g 95,g 96,g 97,g 98,g 99,g 100,g 101,g 102,g 103,g 104,g 105,g 106,g 107,g 108,g 109,g 110,g 111,g 112,g 113,g 114,g 115,g 116,g 117,g 118,g 119,g 120,g 121,g 122,g 123,g 124,g 125,g 126,g 127,g 128,g 129,g 130,g 131,g 132,g 133,g 134,g 135,g 136,g 137,g 138,g 139,g 140,g 141,g 142,g 143,g 144,g 145,g 146,g 147,g 148,g 149,g 150,g 151,g 152,g 153,g 154,g 155,g 156,g 157,g 158,g 159],[]⟩ [.code W9]) (c::K)) W:=by
 have on:∀b,As b->Bd (iL As W.heap.size) W.heap.size b=true:= λb hb=>gH.2 ⟨mZ.2 (.inl hb),hown b (hAs b hb)⟩
 have sl:∀(p:Option Addr)(l c:Nat),(∀q,p=some q->As q.block)->vs (FA S5 S5 (fe ji S5 S5) (Bd (iL As W.heap.size) W.heap.size)) (.slice p l c)=true:= λp l c hp=>by
  cases hq:p with
  |none=>simp
  |some a=>rw[gY,um];exact on a.block (hp a hq)
 have hsl:=sl A 2 cap hA
 have htu:vs (FA S5 S5 (fe ji S5 S5) (Bd (iL As W.heap.size) W.heap.size)) (.tuple #[.slice A 2 cap,.bool true,.bool true,.int .i64 0])=true:=by rw[q9];exact dx hsl (dx (sw _) (dx (sw _) (dx (Fv _ _) LD)))
 have hbk:vs (FA S5 S5 (fe ji S5 S5) (Bd (iL As W.heap.size) W.heap.size)) (.agg #[.slice v.ah 2 v.ch,.slice v.ap 5 v.cp,.slice v.iT 4 v.cs,.slice v.ac 4 v.cc])=true:=by rw[lV];exact dx (sl _ _ _ λq h=>bi q (.inl h)) (dx (sl _ _ _ λq h=>bi q (.inr (.inl h))) (dx (sl _ _ _ λq h=>bi q (.inr (.inr (.inl h)))) (dx (sl _ _ _ λq h=>bi q (.inr (.inr (.inr h)))) LD)))
 refine iF.walk ?_ rfl rfl
 refine OA (P:=ji) (Q:=Tryz.prog) (S:=S5) (Z:=Z0) (own:=own) (X:= λ_=>False) (W:=W) (As:=As) (R:= λv _=>v=.bool true) Tv (Tw S5) TJ Tx ja (λb h=>.inl (hAs b h)) (λ_ h=>h.elim) (λb o hb ho=>?_)
  (λb hb=>⟨hown b hb, λh=>h, λh=>h⟩) (λb h=>h.elim) (λb h=>h.elim) (λb i h=>h.elim) (λh=>h) My V5 ak6 rfl ?_ (λw hz hc _=>?_) λx w' f' dD W' hR hid hkx=>?_
 .obtain⟨c,e,fr,h1,h2⟩:=hin b hb;rw[h1]at ho;cases ho;refine⟨_,_,_,rfl, λx hx=>?_⟩;rcases h2 x hx with h3|⟨p,l,cp,rfl,h3⟩
  .exact(iP (f:= λb=>b) h3).2
  .exact sl _ _ _ h3
 .exact dx (hv 0) (dx (hv 1) (dx (hv 2) (dx (hv 3) (dx (hv 4) (dx (hv 5) (dx (hv 6) (dx (hv 7) (dx (hv 8) (dx (hv 9) (dx (hv 10) (dx hsl (dx (sw _) (dx (sw _) (dx (Fv _ _) (dx (hv 15) (dx (hv 16) (dx (hv 17) (dx (hv 18) (dx (hv 19) (dx (hv 20) (dx (hv 21) (dx (hv 22) (dx (hv 23) (dx (hv 24) (dx (hv 25) (dx (hv 26) (dx (hv 27) (dx (hv 28) (dx (hv 29) (dx (hv 30) (dx (hv 31) (dx (hv 32) (dx (hv 33) (dx (hv 34) (dx (hv 35) (dx (hv 36) (dx (hv 37) (dx (hv 38) (dx (hv 39) (dx (hv 40) (dx (hv 41) (dx (hv 42) (dx (hv 43) (dx (hv 44) (dx (hv 45) (dx (hv 46) (dx (hv 47) (dx (hv 48) (dx (hv 49) (dx (hv 50) (dx (hv 51) (dx htu (dx hbk (dx htu (dx hsl (dx (sw _) (dx (sw _) (dx (Fv _ _) (dx (hv 59) (dx (hv 60) (dx (hv 61) (dx (hv 62) (dx (hv 63) (dx (hv 64) (dx (hv 65) (dx (hv 66) (dx (hv 67) (dx (hv 68) (dx (hv 69) (dx (hv 70) (dx (hv 71) (dx (hv 72) (dx (hv 73) (dx (hv 74) (dx (hv 75) (dx (hv 76) (dx (hv 77) (dx (hv 78) (dx (hv 79) (dx (hv 80) (dx (hv 81) (dx (hv 82) (dx (hv 83) (dx (hv 84) (dx (hv 85) (dx (hv 86) (dx (hv 87) (dx (hv 88) (dx (hv 89) (dx (hv 90) (dx (hv 91) (dx (hv 92) (dx (hv 93) (dx (hv 94) (dx (hv 95) (dx (hv 96) (dx (hv 97) (dx (hv 98) (dx (hv 99) (dx (hv 100) (dx (hv 101) (dx (hv 102) (dx (hv 103) (dx (hv 104) (dx (hv 105) (dx (hv 106) (dx (hv 107) (dx (hv 108) (dx (hv 109) (dx (hv 110) (dx (hv 111) (dx (hv 112) (dx (hv 113) (dx (hv 114) (dx (hv 115) (dx (hv 116) (dx (hv 117) (dx (hv 118) (dx (hv 119) (dx (hv 120) (dx (hv 121) (dx (hv 122) (dx (hv 123) (dx (hv 124) (dx (hv 125) (dx (hv 126) (dx (hv 127) (dx (hv 128) (dx (hv 129) (dx (hv 130) (dx (hv 131) (dx (hv 132) (dx (hv 133) (dx (hv 134) (dx (hv 135) (dx (hv 136) (dx (hv 137) (dx (hv 138) (dx (hv 139) (dx (hv 140) (dx (hv 141) (dx (hv 142) (dx (hv 143) (dx (hv 144) (dx (hv 145) (dx (hv 146) (dx (hv 147) (dx (hv 148) (dx (hv 149) (dx (hv 150) (dx (hv 151) (dx (hv 152) (dx (hv 153) (dx (hv 154) (dx (hv 155) (dx (hv 156) (dx (hv 157) (dx (hv 158) (dx (hv 159) (LD))))))))))))))))))))))))))))))))))))))))))))))))))))))))))))))))))))))))))))))))))))))))))))))))))))))))))))))))))))))))))))))))))))))))))))))))))))))))))))))))
 .have up:∀{k n:Nat}{B:Option Addr}{f:Nat->Nat->Value},Rd W W.heap.size k B n f->Rd w w.heap.size k B n f:= λh hn=>by
   obtain⟨b,off,e,h1,h2⟩:=h hn;exact⟨b,off,e,by rw[hz];exact h1, λi j hi hj=>(hc _ _).trans (h2 i j hi hj)⟩
  simp only[g2,g3,g4,g5,g6,g7,g9,g10];have h:=@Lo.ai8 Nu w m2 o2 q2 m4 o4 q4 m6 o6 q6 cap A (up r2) (up r4) (up r6) (up rp);rw[Tu]at h;exact h _ _ _ _ _ _ _ _ _ _ _ _ _ _ _ _ _ _ _ _ _ _ _ _ _ _ _ _ _ _ _ _ _ _ _ _ _ _ _ _ _ _ _ _ _ _ _ _ _ _ _ _ _ _ _ _ _ _ _ _ _ _ _ _ _ _ _ _ _ _ _ _ _ _ _ _ _ _ _ _ _ _ _ _ _ _ _ _ _ _ _ _ _ _ _ _ _ _ _ _ _ _ _ _ _ _ _ _ _ _ _ _ _ _ _ _ _ _ _ _ _ _ _ _ _ _ _ _ _ _ _ _ _ _ _ _ _ _ _ _ _ _ _ _ _ _ _ _
 .subst hR;rw[jZ];refine .stop λW1 hr=>hk dead dD W1 (hr.tape.trans hkx.tape) (hr.out.trans hkx.out) (hkx.os.trans hr.os) (aS hkx.size hr.size) (λb hb=>(hr.own b (hkx.sub b hb)).trans (hkx.kept b (.inl hb) (λh=>h))) hkx.sub (λb hb=>(hkx.new b hb).imp id λh=>h.1) (λb hb=>aK (hkx.lt b hb) hr.size)
end
end
section
attribute [local instance] noSh gX
def ZE:Frame.enter Tryz.prog 5 #[] .normal=(base 5).at ⟨Array.replicate 160 undef,[]⟩ [.code uf]:=by
 have h:Tryz.prog.funcs[5]?=some Tryz.f5:=Tryz.func5
 have hb:Tryz.f5.body=some uf:=by unfold uf Tryz.f5;rfl
 have hn:Tryz.f5.ntmps=160:=by unfold Tryz.f5;rfl
 simp[Frame.enter,h,hb,hn,Frame.at,base]
def DW{W W2:World}{k n b o:Nat}{F:Nat->Nat->Value}(h:Rd W W.heap.size k (some ⟨b,o,none⟩) n F)(hb:W2.heap[b]?=W.heap[b]?)(hz:W.heap.size<=W2.heap.size):Rd W2 W2.heap.size k (some ⟨b,o,none⟩) n F:= λhn=>by obtain⟨b',o',e,h1,h2⟩:=h hn;cases e;exact⟨b,o,rfl,aK h1 hz, λi j hi hj=>(fJ hb _).trans (h2 i j hi hj)⟩
def jd{f:Nat->Nat}{T:Array Value}{i:Nat}{v:Value}(h:T[i]?=some v):(T.map (rv f)).getD i undef=rv f v:=by rw[aA,aG,h];rfl
def LH:Flat Tryz.prog 5 (.bool true):=by
 intro Post dead own W c K hcm hgl hk;refine iF.lt rfl rfl λho=>iF.walk ?_ rfl rfl
 rw[ZE];refine OB (P:=ji) (Q:=Tryz.prog) (S:=S5) (Z:=Z0) (own:=own) (W:=W) (T:=lx W.heap.size) (z:=W8) Tv (Tw S5) TJ Tx hgl (λb hb=>⟨(ho b hb).1, λh=>h, λh=>h⟩) (λb h=>h.elim) (λb h=>h.elim) (λb i h=>h.elim) (λh=>h) My ak5 rfl (λx hx=>?_) (λa w h=>?_) (λw hz=>?_) λa' w' f' dD W' hT hvs hkp hmd=>?_
 .have:x=undef:=(Array.mem_replicate.1 hx).2;rw[this];exact oQ
 .obtain⟨_,_,_,_,_,_,_,_,_,_,_,_,_,h,_⟩:=h;exact h.1
 .have h:=@Lo.ap5 Nu w W8 rfl;rw[hz,Tu]at h;exact h
 obtain⟨L,bo,g,q,m2,o2,q2,m4,o4,q4,m6,o6,q6,⟨hd,hsz,hvl⟩,hcl,⟨e2,e3,e4,e5,e6,e7,e8,e9,e10⟩,⟨Dd,lg,Hd,Kd,Nd,lk,lge⟩,hbx,hq4,ya,hgc,r2,r4,r6⟩:=hT;have hlt:∀b,dD b->b<W'.heap.size:= λb hb=>(hkp.new b hb).elim (λh=>aK (ho b h).1 hkp.rely.size) λh=>h.2
 have fresh:∀{i b o l cp:Nat},a'.tmps[i]?=some (.slice (some ⟨b,o,none⟩) l cp)->W.heap.size<=b:= λ{i b o l cp}h=>by have h1:=hvs _ (aZ h);rw[gY,um]at h1;exact(mZ.1 (gH.1 h1).1).elim az id
 have TM:∀b∈L,W.heap.size<=b:= λb hb=>by
  rcases lge b hb with h|rfl|rfl|rfl
  .exact h
  .exact fresh e2
  .exact fresh e4
  .exact fresh e6
 have hbC:=PG (g:=g) (q:=q) (L:=L) hmd hlt hcl TM lk lg ya hgc hq4;obtain⟨fr',ar5⟩:=hmd.blk bo _ _ _ (TM bo Dd) hbx
 have ar6:W'.heap[f' bo]?=some (.cells #[.slice (Bj f' W.heap.size g q).ah 2 (Bj f' W.heap.size g q).ch,.slice (Bj f' W.heap.size g q).ap 5 (Bj f' W.heap.size g q).cp,.slice (Bj f' W.heap.size g q).iT 4 (Bj f' W.heap.size g q).cs,.slice (Bj f' W.heap.size g q).ac 4 (Bj f' W.heap.size g q).cc] 40 fr'):=by rw[ar5];simp only[List.map_toArray,aC,List.map_nil,fD];rfl
 have V8:∀b∈L,dD (f' b):= λb hb=>NB hmd hcl TM _ ⟨b,hb,rfl⟩
 have hsz':(a'.tmps.map (rv f')).size=160:=by simpa using hsz
 rw[ZC _ hsz'];refine ar4 (v:=Bj f' W.heap.size g q) (bo:=f' bo) (fr:=fr') hbC hlt (aK hgl hkp.rely.size) (V8 bo Dd) ar6 _ _ _ _ _ _ _ _ _ _ _ _ _ _ _ _ _ _ _ _ _ _ _ _ _ _ _ _ _ _ _ _ _ _ _ _ _ _ _ _ _ _ _ _ _ _ _ _ _ _ _ _ _ _ _ _ _ _ _ _ _ _ _ _ _ _ _ _ _ _ _ _ _ _ _ _ _ _ _ _ _ _ _ _ _ _ _ _ _ _ _ _ _ _ _ _ _ _ _ _ _ _ _ _ _ _ _ _ _ _ _ _ _ _ _ _ _ _ _ _ _ _ _ _ _ _ _ _ _ _ _ _ _ _ _ _ _ _ _ _ _ _ _ _ _ _ _ _ _ _ _ _ _ _ _ _ _ _ _ _ ((jd e8).trans (by first|(rw[fD];rfl)|(rw[dX];rfl))) ?_
 intro mJ xC W2 A cap hsl b1 b2 b3 b4 b5 b6 b7 b8;have same:∀b∈L,W2.heap[f' b]?=W'.heap[f' b]?:= λb hb=>b5 _ (V8 b hb)
 refine ak8 (As:= λx=>se L f' x∨∃a,A=some a∧x=a.block) (v:=Bj f' W.heap.size g q) (A:=A) (cap:=cap) b8 (aK hgl (aS hkp.rely.size b4)) (λb hb=>?_) (λa ha=>?_) (λa ha=>.inr ⟨a,ha,rfl⟩) (λi=>(a'.tmps.map (rv f')).getD i undef) (λi=>?_) (λp hp=>.inl (hbC.top p hp))
  ((jd e2).trans (by first|(rw[fD];rfl)|(rw[dX];rfl))) ((jd e3).trans (by simp)) ((jd e4).trans (by first|(rw[fD];rfl)|(rw[dX];rfl))) ((jd e5).trans (by simp)) ((jd e6).trans (by first|(rw[fD];rfl)|(rw[dX];rfl))) ((jd e7).trans (by simp)) ((jd e9).trans (by simp)) ((jd e10).trans (by simp))
  (DW (LF hmd (TM _ Hd) hlt r2 λi j=>by simp) (same _ Hd) b4) (DW (LF hmd (TM _ Kd) hlt r4 λi j=>by simp) (same _ Kd) b4) (DW (LF hmd (TM _ Nd) hlt r6 λi j=>by simp) (same _ Nd) b4) hsl.rd ?_
 .rcases hb with⟨x,hx,rfl⟩|⟨a,ha,rfl⟩
  .exact b6 _ (V8 x hx)
  .exact(hsl.blk a ha).1
 .rcases ha with h|⟨p,hp,rfl⟩
  .obtain⟨cc,e,fr,h1,h2⟩:=NA hmd hcl TM a h;obtain⟨x,hx,rfl⟩:=h;refine⟨cc,e,fr,(same x hx).trans h1, λy hy=>(h2 y hy).imp id λ⟨p,l,cp,h3,h4⟩=>⟨p,l,cp,h3, λq hq=>.inl (h4 q hq)⟩⟩
  .obtain⟨_,cur,e,fr,h2,h3⟩:=hsl.blk p hp;exact⟨cur,e,fr,h2, λy hy=>.inl (h3 y hy)⟩
 .by_cases hi:i<a'.tmps.size
  .rw[jd (aW hi)];refine LB (F:=FA S5 S5 (fe ji S5 S5) λb=>decide (b∈L)) ?_ (λb hb=>?_) _ (hvl S5 (fe ji S5 S5) _ (Array.getElem_mem hi))
   .rfl
   have hb:b∈L:=of_decide_eq_true hb;exact gH.2 ⟨mZ.2 (.inl (.inl ⟨b,hb,rfl⟩)),b8 _ (b6 _ (V8 b hb))⟩
  .rw[aA,Array.getElem?_eq_none (by simpa using hi)];exact oQ
 .intro ak9 cn W3 k1 k2 k3 k4 k5 k6 k7 k8;have hz:=hkp.rely.size
  exact hk ak9 cn W3 (k1.trans (b1.trans hkp.rely.tape)) (k2.trans (b2.trans hkp.rely.out)) ((hkp.rely.os.trans b3).trans k3) (aS hz (aS b4 k4)) (λb hb=>(k5 b (b6 b (hkp.sub b hb))).trans ((b5 b (hkp.sub b hb)).trans (hkp.rely.own b hb))) (λb hb=>k6 b (b6 b (hkp.sub b hb))) (λb hb=>by
   rcases k7 b hb with h|h
   .rcases b7 b h with h|h
    .exact(hkp.new b h).imp id λh=>h.1
    .exact .inr (by omega)
   .exact .inr (by omega)) k8
end
end Go.Proofs.Tryz
namespace Go.Proofs.Tryz
open Go Go.RowKit cS
section
attribute [local instance] noSh
@[reducible] noncomputable def TP:Lo.St:=⟨Tryz.c0,Tryz.f19.body.getD .skip⟩
noncomputable def jY:Program:=Tryz.prog.stub 5 Tryz.c0
noncomputable def TR:Func:={ Tryz.f5 with body:=some Tryz.c0 }
def DX:jY.funcs[5]?=some TR:=by unfold jY TR;exact Nt Tryz.func5 _
def ZF: @Lo.prog TP=jY:=by rw[@Lo.iB TP];show(Tryz.prog.stub 5 Tryz.c0).stub 19 (Tryz.f19.body.getD .skip)=jY;exact oO (fn:=Tryz.f19) ((zg Tryz.prog Tryz.c0 (by decide)).trans Tryz.func19) (by unfold Tryz.f19;rfl)
def ZG:cS.Alike jY Tryz.prog:=by
 have e:Tryz.prog=jY.stub 5 (Tryz.f5.body.getD .skip):=by unfold jY;rw[Fh];exact(oO Tryz.func5 (by unfold Tryz.f5;rfl)).symm
 rw[e];exact cS.Alike.stub _ _ _
def al0(g:FuncId)(h:Tryz.prog.funcs[g]?≠jY.funcs[g]?):g=5:=by
 by_cases e:g=5
 .exact e
 .exfalso;refine h ?_
  unfold jY;exact(zg Tryz.prog _ e).symm
def ZH:iA jY=true:=by unfold jY;exact DN _ _ _ gD
def l0:List FuncId:=[16,17,10,5,20,8,47,48,49,50,51,13,14,32,52,86,57,87,88,89,90,105,
 11,26,18,27,55,56,33,34,58,91,92,61,62,63,64,93,106,107,108,94,95,117,109]
def S0(g:FuncId):Bool:=l0.contains g
def V0(g:FuncId):Bool:=l0.contains g&&g !=5
def al1:l0.all (EK jY S0 V0)=true:=by kernel_rfl
def b5:Frame:={ fn:=5,tmps:= #[],todo:=[],defers:=[],mode:=.run,kind:=.normal }
noncomputable def fT(P:Program):Frame:={ b5.at ⟨(Array.replicate 160 undef).setIfInBounds 0 (.bool true),[]⟩ [.code .ret]with mode:=.returning }
def TT{P:Program}(h:P.funcs[5]?=some TR)(cs:List Frame)(w:World):runN P 5 (lone (Frame.enter P 5 #[] .normal) cs w)=.next (lone (fT P) cs w):=by
 have hn:TR.ntmps=160:=by unfold TR Tryz.f5;rfl
 have hb:TR.body=some Tryz.c0:=rfl
 have e:Frame.enter P 5 #[] .normal=b5.at ⟨Array.replicate 160 undef,[]⟩ [.code Tryz.c0]:=by simp[Frame.enter,h,hb,hn,Frame.at,b5]
 have s3:∀(T:Array Value)(ops:Array Oper),ops= #[{ dst:=some 0,op:=.assign (.const (.bool true)),type:=4,pos:= "",after:= #[],guard:=none }]->step P (lone (b5.at ⟨T,[]⟩ (.inRegion ops [0]:: [.code .ret])) cs w)=.next (lone (b5.at ⟨T.setIfInBounds 0 (.bool true),[]⟩ (.inRegion ops []:: [.code .ret])) cs w):= λT ops ho=>by
  subst ho;refine step_lone_go ?_
  rw[stepG_op (o:={ dst:=some 0,op:=.assign (.const (.bool true)),type:=4,pos:= "",after:= #[],guard:=none }) rfl rfl];simp[stepG.apply,execOp,Frame.at,b5,Frame.finish,Act.eval]
 rw[e];unfold Tryz.c0;simp only[runN,step_seq,step_region];rw[show List.range (#[({ dst:=some 0,op:=.assign (.const (.bool true)),type:=4,pos:= "",after:= #[],guard:=none }:Oper)]).size= [0]from rfl,s3 _ _ rfl];simp only[step_region_end,step_ret];rfl
def JF{P:Program}(h:P.funcs[5]?=some TR)(w:World):(fT P).leaving P w (.returned (.bool true)):=by
 refine⟨rfl,rfl,rfl,TR,h,?_⟩;have hr:TR.results= #[.tmp 0]:=by unfold TR Tryz.f5;rfl
 unfold results;rw[hr];simp[fT,Frame.at]
def plain0:Plain jY 5 (.bool true):=by refine⟨5, λc cs w hc=>?_⟩;rw[runN_add,TT DX];show runN jY 1 (lone (fT jY) (c::cs) w)=_;simp only[runN];rw[step_leave_returned (JF DX w)]
def as8: @Gk TP:=by intro w cs;rw[ZF];exact⟨.returned (.bool true),w,fT jY,⟨rfl,rfl⟩,⟨5,TT DX cs w⟩,rfl,JF DX w⟩
def ZI[Sh](A:Nat->Bool):kL jY (FA S0 V0 (fe jY S0 V0) A):=
 Mr (λg hg=>bF.1 al1 g (by simpa[S0]using hg)) (λg h=>by simp only[V0,bB]at h;exact h.1) A
def ZJ(g:FuncId)(_:S0 g=true)(h:Tryz.prog.funcs[g]?≠jY.funcs[g]?):g=5∧V0 g=false:=by obtain rfl:=al0 g h;exact⟨rfl,rfl⟩
def NC:Tryz.prog.globals.size=0:=by kernel_rfl
def al2(g:FuncId)(hg:S0 g=true):Tryz.prog.inits.idxOf? g=none:=by
 have h:(l0.all λg=>Tryz.prog.inits.idxOf? g==none)=true:=by kernel_rfl
 have :=bF.1 h g (by simpa[S0]using hg);simpa using this
end
end Go.Proofs.Tryz
section
namespace Go.Proofs
open Go
def Rd.conv{w:World}{B K n:Nat}{A:Option Addr}{F G:Nat->Nat->Value}(h:Rd w B K A n F)(e:∀i j,i<n->j<K->F i j=G i j):Rd w B K A n G:= λhn=>by obtain⟨b,o,h1,h2,h3⟩:=h hn;exact⟨b,o,h1,h2, λi j hi hj=>by rw[h3 i j hi hj,e i j hi hj]⟩
end Go.Proofs
namespace Go.Proofs.Tryz
open Go Go.RowKit Go.ChangeShapes Go.WideShapes Go.ChangeAt Go.Conc Go.ConcM cS
def laid:laidOutB Tryz.prog=true:=by kernel_rfl
def knob:ownKnob Tryz.prog.godebug=none:=by kernel_rfl
def V9:Tryz.prog.info? Tryz.prog.types.size=none:=by kernel_rfl
def LJ:Tryz.prog.types.all (λi=>match i.desc with | .named n _=>n != "sync.copyChecker" |_=>true)=true:=by kernel_rfl
def PI(t:TypeId)(i:TypeInfo)(h:Tryz.prog.info? t=some i)(u:TypeId):i.desc≠ .named "sync.copyChecker" u:=FZ LJ t i h u
def TU:((begin Tryz.prog (λ_ _=>0) default).world.heap[0]?).map OE=some true:=by kernel_rfl
def ZK{W:World}(h:W.ShapedOpen Tryz.prog):∃o,W.heap[0]?=some o∧OE o=true:=by
 have hlt:0<(begin Tryz.prog (λ_ _=>0) default).world.heap.size:=by
  cases hx:(begin Tryz.prog (λ_ _=>0) default).world.heap[0]? with
  |none=>have :=TU;rw[hx]at this;cases this
  |some o=>exact(aI.1 hx).1
 obtain⟨o,o0,h1,h2,h3⟩:=h.2 0 (by rw[NC];exact aJ _) hlt;rw[aa (by rw[NC];decide)]at h3;subst h3;have :=TU;rw[h2]at this;exact⟨o,h1,aT this⟩
def cells3:Tryz.prog.cellsOf 3=1:=by kernel_rfl
def tN:Tryz.prog.cellsOf 33=2:=by kernel_rfl
def al9:Tryz.prog.cellsOf 68=1:=by kernel_rfl
section
variable {H:Type} {enc:TypeId×Value->H} {W:World}
def el3:jm enc Tryz.prog W 3 (Tryz.prog.cellsOf 3) λ_=>Au:=by rw[cells3];exact II Tryz.underlying3
def ar8:jm enc Tryz.prog W 33 2 λ_=>Au:=qz Tryz.underlying33 λj hj=>by
 rcases j with _|_|j
 .refine⟨0,{ name:= "Low",type:=3,offset:=0,embedded:=false,tag:= "",pkgPath:= "",byteOffset:=0 }, λ_=>Au,rfl,?_,?_,el3, λv h=>h⟩<;>dsimp only <;>(try rw[cells3])<;>omega
 .refine⟨1,{ name:= "High",type:=3,offset:=1,embedded:=false,tag:= "",pkgPath:= "",byteOffset:=8 }, λ_=>Au,rfl,?_,?_,el3, λv h=>h⟩<;>dsimp only <;>(try rw[cells3])<;>omega
 .omega
def Fq:jm enc Tryz.prog W 33 (Tryz.prog.cellsOf 33) λ_=>Au:=by rw[tN];exact ar8
def av0:jm enc Tryz.prog W 68 1 λ_=>IsK .u16:=Ym Tryz.underlying68
end
def TV(j:Nat)(v:Value)(h:Au v):eF v=true∧OD v=false:=by obtain⟨m,rfl⟩:=h;exact⟨rfl,rfl⟩
def ar9(j:Nat)(v:Value)(h:IsK .u16 v):eF v=true∧OD v=false:=by obtain⟨m,rfl,_⟩:=h;exact⟨rfl,rfl⟩
def Fs{L:List Part}{W:World}{k K len cap:Nat}{A:Option Addr}{F:Nat->Nat->Value}{g:Value->Value}(hk:L[k]?=some (partOf A cap (nS len K F)))(h:F6 W A len cap g (nS len K F))(hK:0<K)(τ:Nat->Question->Nat):Rd ((wL L Tryz.prog.types.size W).tp τ) ((wL L Tryz.prog.types.size W).tp τ).heap.size K (qy (k+1) A) len F:= λhn=>by
 cases A with
 |none=>have :=h.nil rfl;omega
 |some a=>
  have hc:0<cap:=by have :=h.le;omega
  obtain⟨hs,_⟩:=h.at_ a rfl hc;have e:partOf (some a) cap (nS len K F)=⟨a.block,a.off,(nS len K F).toArray,false⟩:=by unfold partOf;simp only;rw[aa (by omega)]
  rw[e]at hk;refine⟨k+1,0,by unfold qy;rw[ay,hs],?_, λi j hi hj=>?_⟩
  .show k+1<(wL L Tryz.prog.types.size W).heap.size;have :=(aY.1 hk).1;rw[sQ];omega
  .rw[Nat.zero_add,Va hk];simpa using CF hi hj
def am0{W:World}(h:W.ShapedOpen Tryz.prog){L:List Part}{g:FuncId}(hg:S0 g=true)(XI:Tryz.prog.funcs[g]?=jY.funcs[g]?)(hL:∀x∈L,x.h=false->U9 L Tryz.prog.types.size W x)
 {args args':Array Value} (ha:letI:=zi L Tryz.prog.types.size;VS (FA S0 V0 (fe jY S0 V0) (Bd (aL L) (L.length+1))) args) (XJ:letI:=zi L Tryz.prog.types.size;args'=args.map (rv (fL L)))
 (kS:∀τ,Calls jY g args ((wL L Tryz.prog.types.size W).tp τ) λe _=>e=.returned (.bool true)) {Post:Value->World->Prop}
 (hpost:∀W',W'.tape=W.tape->W'.output=W.output->OsLater W.os W'.os->W.heap.size<=W'.heap.size->(∀b,b<W.heap.size->W'.heap[b]?=W.heap[b]?)->Post (.bool true) W'):
 cS.Ends Tryz.prog Post (solo (G (Frame.enter Tryz.prog g args' .normal) []) W) #[]:=by
 have hW:0<W.heap.size:=by obtain⟨o,h0,_⟩:=ZK h;exact(aI.1 h0).1
 letI:cS.Sh:=zi L Tryz.prog.types.size;exact iF.start (Rc (P:=jY) (Q:=Tryz.prog) (S:=S0) (V:=V0) (cd:=fe jY S0 V0) (L:=L) (bad:=Tryz.prog.types.size) (q:=5) (v0:=.bool true) (g:=g) (args:=args) ZG (λf=>jZ f true) (λF=>sw true) ZJ plain0 LH ZI ZH NC NC V9 PI al2 hg XI hW hL ha XJ kS hpost) (λb hb=>hb)
end Go.Proofs.Tryz
end
namespace Go.Proofs.Tryz
open Go Go.RowKit Go.ChangeShapes Go.WideShapes Go.ChangeAt Go.Conc Go.ConcM cS
section
def ZL:Tryz.prog.cellsOf 9=1:=by kernel_rfl
def GN:Tryz.prog.cellsOf 30=1:=by kernel_rfl
def ND:Tryz.prog.cellsOf 37=1:=by kernel_rfl
def NF:Tryz.prog.cellsOf 38=1:=by kernel_rfl
def GQ:Tryz.prog.cellsOf 22=1:=by kernel_rfl
def Wd:Tryz.prog.cellsOf 36=7:=by kernel_rfl
def We:Tryz.prog.cellsOf 42=3:=by kernel_rfl
def Wh:Tryz.prog.cellsOf 40=4:=by kernel_rfl
def R7(W:World)(j:Nat)(v:Value):Prop:=if j=1∨j=2 then xg W 1 (λ_=>Au) v else Au v
def R4(W:World)(j:Nat)(v:Value):Prop:=if j=2 then xg W 7 (R7 W) v else if j=3 then xg W 3 (λ_=>Au) v else xg W 1 (λ_=>WM) v
section
variable {H:Type} {enc:TypeId×Value->H} {W:World}
def iz:jm enc Tryz.prog W 22 (Tryz.prog.cellsOf 22) λ_=>xg W 1 λ_=>Au:=by rw[GQ];exact Bt Tryz.underlying22 cells3 (by decide) (II Tryz.underlying3)
def as0:jm enc Tryz.prog W 36 7 (R7 W):=qz Tryz.underlying36 λj hj=>by
 rcases j with _|_|_|_|_|_|_|j
 .refine⟨0,{ name:= "Hand",type:=3,offset:=0,embedded:=false,tag:= "",pkgPath:= "",byteOffset:=0 }, λ_=>Au,rfl,?_,?_,el3, λv h=>by unfold R7;rw[aa (by omega)];exact h⟩<;>(try dsimp only)<;>(try rw[cells3])<;>omega
 .refine⟨1,{ name:= "In",type:=22,offset:=1,embedded:=false,tag:= "",pkgPath:= "",byteOffset:=8 }, λ_=>xg W 1 λ_=>Au,rfl,?_,?_,iz, λv h=>by unfold R7;rw[aj (by omega)];exact h⟩<;>(try dsimp only)<;>(try rw[GQ])<;>omega
 .refine⟨2,{ name:= "Out",type:=22,offset:=2,embedded:=false,tag:= "",pkgPath:= "",byteOffset:=32 }, λ_=>xg W 1 λ_=>Au,rfl,?_,?_,iz, λv h=>by unfold R7;rw[aj (by omega)];exact h⟩<;>(try dsimp only)<;>(try rw[GQ])<;>omega
 .refine⟨3,{ name:= "Gain",type:=33,offset:=3,embedded:=false,tag:= "",pkgPath:= "",byteOffset:=56 }, λ_=>Au,rfl,?_,?_,Fq, λv h=>by unfold R7;rw[aa (by omega)];exact h⟩<;>(try dsimp only)<;>(try rw[tN])<;>omega
 .refine⟨3,{ name:= "Gain",type:=33,offset:=3,embedded:=false,tag:= "",pkgPath:= "",byteOffset:=56 }, λ_=>Au,rfl,?_,?_,Fq, λv h=>by unfold R7;rw[aa (by omega)];exact h⟩<;>(try dsimp only)<;>(try rw[tN])<;>omega
 .refine⟨4,{ name:= "Loss",type:=33,offset:=5,embedded:=false,tag:= "",pkgPath:= "",byteOffset:=72 }, λ_=>Au,rfl,?_,?_,Fq, λv h=>by unfold R7;rw[aa (by omega)];exact h⟩<;>(try dsimp only)<;>(try rw[tN])<;>omega
 .refine⟨4,{ name:= "Loss",type:=33,offset:=5,embedded:=false,tag:= "",pkgPath:= "",byteOffset:=72 }, λ_=>Au,rfl,?_,?_,Fq, λv h=>by unfold R7;rw[aa (by omega)];exact h⟩<;>(try dsimp only)<;>(try rw[tN])<;>omega
 .omega
def as1:jm enc Tryz.prog W 42 3 λ_=>Au:=qz Tryz.underlying42 λj hj=>by
 rcases j with _|_|_|j
 .refine⟨0,{ name:= "Pile",type:=3,offset:=0,embedded:=false,tag:= "",pkgPath:= "",byteOffset:=0 }, λ_=>Au,rfl,?_,?_,el3, λv h=>h⟩<;>(try dsimp only)<;>(try rw[cells3])<;>omega
 .refine⟨1,{ name:= "Mass",type:=33,offset:=1,embedded:=false,tag:= "",pkgPath:= "",byteOffset:=8 }, λ_=>Au,rfl,?_,?_,Fq, λv h=>h⟩<;>(try dsimp only)<;>(try rw[tN])<;>omega
 .refine⟨1,{ name:= "Mass",type:=33,offset:=1,embedded:=false,tag:= "",pkgPath:= "",byteOffset:=8 }, λ_=>Au,rfl,?_,?_,Fq, λv h=>h⟩<;>(try dsimp only)<;>(try rw[tN])<;>omega
 .omega
def jz:jm enc Tryz.prog W 30 (Tryz.prog.cellsOf 30) λ_=>xg W 1 λ_=>WM:=by rw[GN];exact Bt Tryz.underlying30 ZL (by decide) (Re Tryz.underlying9)
def as2:jm enc Tryz.prog W 37 (Tryz.prog.cellsOf 37) λ_=>xg W 7 (R7 W):=by rw[ND];exact Bt Tryz.underlying37 Wd (by decide) as0
def as3:jm enc Tryz.prog W 38 (Tryz.prog.cellsOf 38) λ_=>xg W 3 λ_=>Au:=by rw[NF];exact Bt Tryz.underlying38 We (by decide) as1
def as4:jm enc Tryz.prog W 40 4 (R4 W):=qz Tryz.underlying40 λj hj=>by
 rcases j with _|_|_|_|j
 .refine⟨0,{ name:= "Hands",type:=30,offset:=0,embedded:=false,tag:= "",pkgPath:= "",byteOffset:=0 }, λ_=>xg W 1 λ_=>WM,rfl,?_,?_,jz, λv h=>by unfold R4;rw[aa (by omega),aa (by omega)];exact h⟩<;>(try dsimp only)<;>(try rw[GN])<;>omega
 .refine⟨1,{ name:= "Piles",type:=30,offset:=1,embedded:=false,tag:= "",pkgPath:= "",byteOffset:=24 }, λ_=>xg W 1 λ_=>WM,rfl,?_,?_,jz, λv h=>by unfold R4;rw[aa (by omega),aa (by omega)];exact h⟩<;>(try dsimp only)<;>(try rw[GN])<;>omega
 .refine⟨2,{ name:= "Steps",type:=37,offset:=2,embedded:=false,tag:= "",pkgPath:= "",byteOffset:=48 }, λ_=>xg W 7 (R7 W),rfl,?_,?_,as2, λv h=>by unfold R4;rw[aj (by omega)];exact h⟩<;>(try dsimp only)<;>(try rw[ND])<;>omega
 .refine⟨3,{ name:= "Scales",type:=38,offset:=3,embedded:=false,tag:= "",pkgPath:= "",byteOffset:=72 }, λ_=>xg W 3 λ_=>Au,rfl,?_,?_,as3, λv h=>by unfold R4;rw[aa (by omega),aj (by omega)];exact h⟩<;>(try dsimp only)<;>(try rw[NF])<;>omega
 .omega
structure gu(W:World)(v:Value) where
 (Ah Ap As Ac:Option Addr)
 (nh ch np cp ns cs nc cc:Nat)
 e:v=.agg #[.slice Ah nh ch,.slice Ap np cp,.slice As ns cs,.slice Ac nc cc]
 s1:yD W Ah nh ch 1 λ_=>WM
 s2:yD W Ap np cp 1 λ_=>WM
 s3:yD W As ns cs 7 (R7 W)
 s4:yD W Ac nc cc 3 λ_=>Au
theorem aa1{base:Nat}{v:Value}(hok:Value.okWide Tryz.prog W .any base 40 v){fuel:Nat}{x:DataW H×List MemPlace}(h:DataW.trod enc Tryz.prog W 0 (λ_=>true) true fuel 40 v.cells.toList=some x):Nonempty (gu W v):=by
 obtain⟨cs,rfl,hsz⟩:=okWide_struct Tryz.underlying40 hok;rw[Wh]at hsz;obtain⟨l⟩:=cs;have hE:=as4 (enc:=enc) (W:=W) _ _ _ h;have hl:l.length=4:=by simpa using hsz
 obtain⟨v0,v1,v2,v3,rfl⟩:∃v0 v1 v2 v3,l= [v0,v1,v2,v3]:=by rcases l with _|⟨a,_|⟨b,_|⟨c,_|⟨d,_|⟨e,l⟩⟩⟩⟩⟩<;>simp at hl;exact⟨_,_,_,_,rfl⟩
 obtain⟨u0,e0,h0⟩:=hE 0 (by omega);obtain⟨u1,e1,h1⟩:=hE 1 (by omega);obtain⟨u2,e2,h2⟩:=hE 2 (by omega);obtain⟨u3,e3,h3⟩:=hE 3 (by omega);simp[Value.cells]at e0 e1 e2 e3;subst e0 e1 e2 e3;unfold R4 at h0 h1 h2 h3;rw[aa (by omega),aa (by omega)]at h0 h1;rw[aj rfl]at h2;rw[aa (by omega),aj rfl]at h3;obtain⟨Ah,nh,ch,rfl,s1⟩:=h0;obtain⟨Ap,np,cp,rfl,s2⟩:=h1;obtain⟨As,ns,cs,rfl,s3⟩:=h2;obtain⟨Ac,nc,cc,rfl,s4⟩:=h3;exact⟨⟨Ah,Ap,As,Ac,nh,ch,np,cp,ns,cs,nc,cc,rfl,s1,s2,s3,s4⟩⟩
end
end
section
def TW(j:Nat)(v:Value)(h:WM v):eF v=true∧OD v=false:=by obtain⟨m,rfl⟩:=h;exact⟨rfl,rfl⟩
def bytesOf:Value->ByteArray
 | .string s=>s
 |_=>ByteArray.empty
structure vV where
 A:Option Addr
 len:Nat
 cap:Nat
 D:Nat->Nat->Value
structure TY(W:World)(v:Value)(z:vV):Prop where
 e:v=.slice z.A z.len z.cap
 le:z.len<=z.cap
 int:∀i j,i<z.len->j<1->Au (z.D i j)
 pl:∀v∈nS z.len 1 z.D,eF v=true
 ok:∀(L:List Part)(bad:TypeId),F6 W z.A z.len z.cap (letI:=zi L bad;rv (fL L)) (nS z.len 1 z.D)
def vV.part(z:vV):Part:=partOf z.A z.cap (nS z.len 1 z.D)
def vV.nums(z:vV):List Int:=(List.range z.len).map λq=>intOf (z.D q 0)
section
variable {W:World} {v:Value}
def gu.d(s:gu W v)(D1 D2 D3 D4:Nat->Nat->Value)(f1 f2:Nat->vV):dO:=
 ⟨(List.range s.nh).map λi=>bytesOf (D1 i 0),(List.range s.np).map λi=>bytesOf (D2 i 0),
  (List.range s.ns).map λi=>⟨intOf (D3 i 0),(f1 i).nums,(f2 i).nums,intOf (D3 i 3),intOf (D3 i 4),intOf (D3 i 5),intOf (D3 i 6)⟩,
  (List.range s.nc).map λi=>⟨intOf (D4 i 0),intOf (D4 i 1),intOf (D4 i 2)⟩⟩
def gu.bv(s:gu W v)(f1 f2:Nat->vV):gJ:=
 ⟨qy 1 s.Ah,s.ch,qy 2 s.Ap,s.cp,qy 3 s.As,s.cs,qy 4 s.Ac,s.cc, λi=>⟨qy (4+2*i+1) (f1 i).A,(f1 i).cap,qy (4+(2*i+1)+1) (f2 i).A,(f2 i).cap⟩⟩
def qG(D3:Nat->Nat->Value)(f1 f2:Nat->vV)(i j:Nat):Value:=
 if j=1 then .slice (qy (4+2*i+1) (f1 i).A) (f1 i).len (f1 i).cap else if j=2 then .slice (qy (4+(2*i+1)+1) (f2 i).A) (f2 i).len (f2 i).cap else D3 i j
def gu.parts(s:gu W v)(D1 D2 D3 D4:Nat->Nat->Value)(f1 f2:Nat->vV):List Part:=
 [partOf s.Ah s.ch (nS s.nh 1 D1),partOf s.Ap s.cp (nS s.np 1 D2),partOf s.As s.cs (nS s.ns 7 (qG D3 f1 f2)),partOf s.Ac s.cc (nS s.nc 3 D4)]++
   (List.range (2*s.ns)).map λq=>if q%2=0 then(f1 (q/ 2)).part else(f2 (q/ 2)).part
def NG{o:Obj}(ho:W.heap[0]?=some o)(hodd:OE o=true){n:Nat}{D3:Nat->Nat->Value}{j:Nat}(hj:j=1∨j=2)(h:∀i j,i<n->j<7->R7 W j (D3 i j)):∃f:Nat->vV,∀i,i<n->TY W (D3 i j) (f i):=by
 have hx:∀i:Nat,∃z:vV,i<n->TY W (D3 i j) z:= λi=>by
  by_cases hi:i<n
  .have hR:=h i j hi (by omega);unfold R7 at hR;rw[aj hj]at hR;obtain⟨A,len,cap,e,hs⟩:=hR;obtain⟨D,r,t,ok⟩:=hs.flat (by omega) TV ho hodd;exact⟨⟨A,len,cap,D⟩, λ_=>⟨e,hs.le,r,t,ok⟩⟩
  .exact⟨⟨none,0,0, λ_ _=>undef⟩, λh=>absurd h hi⟩
 exact Classical.axiomOfChoice hx
def TZ{s:gu W v}{D1 D2 D3 D4:Nat->Nat->Value}{f1 f2:Nat->vV}{X:List Part}{i:Nat}(hi:i<s.ns):
 (s.parts D1 D2 D3 D4 f1 f2++X)[4+2*i]?=some (f1 i).part∧(s.parts D1 D2 D3 D4 f1 f2++X)[4+(2*i+1)]?=some (f2 i).part:=by
 have hl:((List.range (2*s.ns)).map λq=>if q%2=0 then(f1 (q/ 2)).part else(f2 (q/ 2)).part).length=2*s.ns:=by simp
 unfold gu.parts;refine⟨?_,?_⟩
 .rw[List.getElem?_append_left (by simp;omega),List.getElem?_append_right (by simp)];simp only[List.length_cons,List.length_nil];rw[List.getElem?_map,List.getElem?_range (by omega),show 4+2*i-(0+1+1+1+1)=2*i by omega];simp
 .rw[List.getElem?_append_left (by simp;omega),List.getElem?_append_right (by simp)];simp only[List.length_cons,List.length_nil];rw[List.getElem?_map,List.getElem?_range (by omega),show 4+(2*i+1)-(0+1+1+1+1)=2*i+1 by omega];simp only[ay];rw[aa (by omega),show(2*i+1)/ 2=i by omega]
def GR{D3:Nat->Nat->Value}{n i j:Nat}(h:∀i j,i<n->j<7->R7 W j (D3 i j))(hi:i<n)(hj:j<7)(h1:j≠1)(h2:j≠2):∃m:Int,D3 i j=.int .i64 m:=by have hR:=h i j hi hj;unfold R7 at hR;rw[aa (by omega)]at hR;exact hR
def am1{o:Obj}(ho:W.heap[0]?=some o)(hodd:OE o=true)(s:gu W v):∃(b:dO)(bv:gJ)(M:List Part),GG b bv∧∀L X:List Part,L=M++X->
 (∀x∈M,x.h=false->U9 L Tryz.prog.types.size W x)∧
 (∀(S V:FuncId->Bool)(cd:Code->Bool),letI:=zi L Tryz.prog.types.size;vs (FA S V cd (Bd (aL L) (L.length+1))) (dY b bv)=true)∧
 (letI:=zi L Tryz.prog.types.size;rv (fL L) (dY b bv)=v)∧
 ∀τ,fC ((wL L Tryz.prog.types.size W).tp τ) ((wL L Tryz.prog.types.size W).tp τ).heap.size b bv:=by
 obtain⟨D1,r1,t1,i1⟩:=s.s1.flat (by omega) TW ho hodd;obtain⟨D2,r2,t2,i2⟩:=s.s2.flat (by omega) TW ho hodd;obtain⟨D4,r4,t4,i4⟩:=s.s4.flat (by omega) TV ho hodd;obtain⟨D3,r3,c3⟩:=s.s3.tab;obtain⟨f1,h1⟩:=NG ho hodd (.inl rfl) r3;obtain⟨f2,h2⟩:=NG ho hodd (.inr rfl) r3
 have hd:∀i x,(s.d D1 D2 D3 D4 f1 f2).steps[i]?=some x->i<s.ns∧x=⟨intOf (D3 i 0),(f1 i).nums,(f2 i).nums,intOf (D3 i 3),intOf (D3 i 4),intOf (D3 i 5),intOf (D3 i 6)⟩:= λi x hx=>by
  have hi:i<s.ns:=by simpa[gu.d]using(aY.1 hx).1
  refine⟨hi,?_⟩;simp only[gu.d,List.getElem?_map,List.getElem?_range hi,ay]at hx;exact(aT hx).symm
 have hnl:∀z:vV,z.nums.length=z.len:= λz=>by simp[vV.nums]
 refine⟨s.d D1 D2 D3 D4 f1 f2,s.bv f1 f2,s.parts D1 D2 D3 D4 f1 f2, λi x hx=>?_, λL X hL=>?_⟩
 .obtain⟨hi,rfl⟩:=hd i x hx;exact⟨aS (Nat.le_of_eq (hnl _)) (h1 i hi).le,aS (Nat.le_of_eq (hnl _)) (h2 i hi).le⟩
 have k0:L[0]?=some (partOf s.Ah s.ch (nS s.nh 1 D1)):=by rw[hL];rfl
 have k1:L[1]?=some (partOf s.Ap s.cp (nS s.np 1 D2)):=by rw[hL];rfl
 have k2:L[2]?=some (partOf s.As s.cs (nS s.ns 7 (qG D3 f1 f2))):=by rw[hL];rfl
 have k3:L[3]?=some (partOf s.Ac s.cc (nS s.nc 3 D4)):=by rw[hL];rfl
 have kn:∀i,i<s.ns->L[4+2*i]?=some (f1 i).part∧L[4+(2*i+1)]?=some (f2 i).part:= λi hi=>by rw[hL];exact TZ hi
 letI:=zi L Tryz.prog.types.size
 have nv:∀i,i<s.ns->(∀(S V:FuncId->Bool)(cd:Code->Bool),vs (FA S V cd (Bd (aL L) (L.length+1))) (.slice (qy (4+2*i+1) (f1 i).A) (f1 i).len (f1 i).cap)=true)∧∀(S V:FuncId->Bool)(cd:Code->Bool),vs (FA S V cd (Bd (aL L) (L.length+1))) (.slice (qy (4+(2*i+1)+1) (f2 i).A) (f2 i).len (f2 i).cap)=true:= λi hi=>
  ⟨λS V cd=>rO (bad:=Tryz.prog.types.size) ((h1 i hi).ok L Tryz.prog.types.size).part (kn i hi).1 (h1 i hi).le, λS V cd=>rO (bad:=Tryz.prog.types.size) ((h2 i hi).ok L Tryz.prog.types.size).part (kn i hi).2 (h2 i hi).le⟩
 have hF:∀i j,i<s.ns->j<7->rv (fL L) (qG D3 f1 f2 i j)=D3 i j:= λi j hi hj=>by
  unfold qG
  by_cases e1:j=1
  .subst e1;rw[aj rfl,fD,rM (bad:=Tryz.prog.types.size) ((h1 i hi).ok L Tryz.prog.types.size).part (kn i hi).1,(h1 i hi).e]
  rw[aa e1]
  by_cases e2:j=2
  .subst e2;rw[aj rfl,fD,rM (bad:=Tryz.prog.types.size) ((h2 i hi).ok L Tryz.prog.types.size).part (kn i hi).2,(h2 i hi).e]
  rw[aa e2];obtain⟨m,hm⟩:=GR r3 hi hj e1 e2;rw[hm,iC]
 have i3:F6 W s.As s.ns s.cs (rv (fL L)) (nS s.ns 7 (qG D3 f1 f2)):=
  s.s3.qr (by omega) (s.s3.pos (by omega) (λv hv=>by unfold R7 at hv;rw[aa (by omega)]at hv;obtain⟨m,rfl⟩:=hv;rfl) ho hodd) c3 hF
 have v3:∀v∈nS s.ns 7 (qG D3 f1 f2),∀(S V:FuncId->Bool)(cd:Code->Bool),vs (FA S V cd (Bd (aL L) (L.length+1))) v=true:= λv hv S V cd=>by
  obtain⟨i,j,hi,hj,rfl⟩:=IJ hv;unfold qG
  by_cases e1:j=1
  .rw[aj e1];exact(nv i hi).1 S V cd
  rw[aa e1]
  by_cases e2:j=2
  .rw[aj e2];exact(nv i hi).2 S V cd
  rw[aa e2];obtain⟨m,hm⟩:=GR r3 hi hj e1 e2;rw[hm,Fv]
 refine⟨λx hx hh=>?_, λS V cd=>?_,?_, λτ=>?_⟩
 .unfold gu.parts at hx;rcases List.mem_append.1 hx with hx|hx
  .simp only[bD,ax,or_false]at hx;rcases hx with rfl|rfl|rfl|rfl
   .exact(i1 L Tryz.prog.types.size).lies (rP t1).2 hh
   .exact(i2 L Tryz.prog.types.size).lies (rP t2).2 hh
   .exact i3.lies v3 hh
   .exact(i4 L Tryz.prog.types.size).lies (rP t4).2 hh
  .obtain⟨q,hq,rfl⟩:=List.mem_map.1 hx;have hq:=List.mem_range.1 hq
   by_cases e:q%2=0
   .rw[aj e]at hh⊢;exact((h1 (q/ 2) (by omega)).ok L Tryz.prog.types.size).lies (rP (h1 (q/ 2) (by omega)).pl).2 hh
   .rw[aa e]at hh⊢;exact((h2 (q/ 2) (by omega)).ok L Tryz.prog.types.size).lies (rP (h2 (q/ 2) (by omega)).pl).2 hh
 .unfold dY;rw[lV];intro x hx;simp only[aB,bD,ax,or_false]at hx;rcases hx with rfl|rfl|rfl|rfl
  .exact rO (bad:=Tryz.prog.types.size) (i1 L Tryz.prog.types.size).part k0 (by simpa[gu.d,gu.bv]using s.s1.le)
  .exact rO (bad:=Tryz.prog.types.size) (i2 L Tryz.prog.types.size).part k1 (by simpa[gu.d,gu.bv]using s.s2.le)
  .exact rO (bad:=Tryz.prog.types.size) i3.part k2 (by simpa[gu.d,gu.bv]using s.s3.le)
  .exact rO (bad:=Tryz.prog.types.size) (i4 L Tryz.prog.types.size).part k3 (by simpa[gu.d,gu.bv]using s.s4.le)
 .refine Eq.trans ?_ s.e.symm
  unfold dY;have e1:=rM (bad:=Tryz.prog.types.size) (i1 L Tryz.prog.types.size).part k0;have e2:=rM (bad:=Tryz.prog.types.size) (i2 L Tryz.prog.types.size).part k1;have e3:=rM (bad:=Tryz.prog.types.size) i3.part k2;have e4:=rM (bad:=Tryz.prog.types.size) (i4 L Tryz.prog.types.size).part k3;simp only[nX,List.map_toArray,aC,List.map_nil,fD,gu.bv];rw[e1,e2,e3,e4];simp[gu.d]
 .have x0:=Fs k0 (i1 L Tryz.prog.types.size) (by omega) τ;have x1:=Fs k1 (i2 L Tryz.prog.types.size) (by omega) τ;have x2:=Fs k2 i3 (by omega) τ;have x3:=Fs k3 (i4 L Tryz.prog.types.size) (by omega) τ;have l1:(s.d D1 D2 D3 D4 f1 f2).dJ.length=s.nh:=by simp[gu.d]
  have l2:(s.d D1 D2 D3 D4 f1 f2).dz.length=s.np:=by simp[gu.d]
  have l3:(s.d D1 D2 D3 D4 f1 f2).steps.length=s.ns:=by simp[gu.d]
  have l4:(s.d D1 D2 D3 D4 f1 f2).dA.length=s.nc:=by simp[gu.d]
  refine⟨?_,?_,?_, λi x hx=>?_, λi x hx=>?_,?_,?_,?_,?_,?_⟩
  .show Rd _ _ 1 _ (s.d D1 D2 D3 D4 f1 f2).dJ.length _;rw[l1];refine x0.conv λi j hi hj=>?_
   obtain rfl:j=0:=by omega
   obtain⟨m,hm⟩:=r1 i 0 hi hj;simp[gu.d,hi,hm,bytesOf]
  .show Rd _ _ 1 _ (s.d D1 D2 D3 D4 f1 f2).dz.length _;rw[l2];refine x1.conv λi j hi hj=>?_
   obtain rfl:j=0:=by omega
   obtain⟨m,hm⟩:=r2 i 0 hi hj;simp[gu.d,hi,hm,bytesOf]
  .rw[l3];refine x2.conv λi j hi hj=>?_
   have hq:∀j,j<7->j≠1->j≠2->D3 i j=.int .i64 (intOf (D3 i j)):= λj h1 h2 h3=>by obtain⟨m,hm⟩:=GR r3 hi h1 h2 h3;rw[hm];rfl
   unfold Gi qG;simp only[gu.d,List.getElem?_map,List.getElem?_range hi,ay,ak,gu.bv];rcases j with _|_|_|_|_|_|_|j
   .exact hq 0 (by omega) (by omega) (by omega)
   .simp[dW.cells,hnl]
   .simp[dW.cells,hnl]
   .exact hq 3 (by omega) (by omega) (by omega)
   .exact hq 4 (by omega) (by omega) (by omega)
   .exact hq 5 (by omega) (by omega) (by omega)
   .exact hq 6 (by omega) (by omega) (by omega)
   .omega
  .obtain⟨hi,rfl⟩:=hd i x hx;show Rd _ _ 1 _ (f1 i).nums.length _;rw[hnl];refine(Fs (kn i hi).1 ((h1 i hi).ok L Tryz.prog.types.size) (by omega) τ).conv λq j hq hj=>?_
   obtain rfl:j=0:=by omega
   obtain⟨m,hm⟩:=(h1 i hi).int q 0 hq hj;simp[vV.nums,hq,hm,intOf]
  .obtain⟨hi,rfl⟩:=hd i x hx;show Rd _ _ 1 _ (f2 i).nums.length _;rw[hnl];refine(Fs (kn i hi).2 ((h2 i hi).ok L Tryz.prog.types.size) (by omega) τ).conv λq j hq hj=>?_
   obtain rfl:j=0:=by omega
   obtain⟨m,hm⟩:=(h2 i hi).int q 0 hq hj;simp[vV.nums,hq,hm,intOf]
  .rw[l4];refine x3.conv λi j hi hj=>?_
   obtain⟨m,hm⟩:=r4 i j hi hj;unfold vD;simp only[gu.d,List.getElem?_map,List.getElem?_range hi,ay,ak];rcases j with _|_|_|j
   .rw[hm];simp[jD.cells,hm,intOf]
   .rw[hm];simp[jD.cells,hm,intOf]
   .rw[hm];simp[jD.cells,hm,intOf]
   .omega
  .rw[l1];exact s.s1.le
  .rw[l2];exact s.s2.le
  .rw[l3];exact s.s3.le
  .rw[l4];exact s.s4.le
end
end
end Go.Proofs.Tryz
section
end
