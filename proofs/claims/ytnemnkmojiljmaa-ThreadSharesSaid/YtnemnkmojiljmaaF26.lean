/- Part 26. -/
import Derived.Test.YtnemnkmojiljmaaF17
import Derived.Test.YtnemnkmojiljmaaF19
set_option maxRecDepth 100000
set_option maxHeartbeats 8000000
set_option linter.all false
section
namespace Par
open Go Go.Conc Go.ConcM Go.ConcN
section
variable {P:Program} {main:Bool} {Z:eG} {own:Nat->Prop} {Stop:(Nat->Prop)->Goroutine->World->Prop}
variable {b:Frame} {a:Act} {kk:List Item} {cs:List Frame} {W:World} {ops:Array Oper} {i:Nat} {rest:List Nat} {o:Oper}
theorem Bh (ho:ops[i]?=some o) (hw:Region.wanted o (yielded ops a.tmps)=true) (hk:b.kind≠ .early)
 (h:∀W1,bZ Z own W W1->∃v W',(execOp a.eval o).run P W1= .ok (.value v) W'∧uC Z own W1 W'∧(∀e∈(execOp a.eval o).events P W1 #[],PI Z (grow own W1 W') e)∧
   Gw P main Z Stop (grow own W1 W') (G (b.at (a.put o.dst v) (.inRegion ops rest::kk)) cs) W'):
 Gw P main Z Stop own (G (b.at a (.inRegion ops (i::rest)::kk)) cs) W:=by
 refine Gw.AL rfl λW1 hr=>?_
 obtain ⟨v,W',h1,h2,h3,h4⟩:=h W1 hr;exact ⟨_,W',_,stepG_value ho hw hk h1,h2, λe he=>h3 e (mem_listed he),h4⟩
theorem Bi {ad:Addr} {v:Value} (ho:ops[i]?=some o) (hw:Region.wanted o (yielded ops a.tmps)=true) (hk:b.kind≠ .early) (hnm:¬Z.mute)
 (hz:own ad.block∨Z.ro ad.block) (hc:W.cell? ad=some v)
 (h:∀W1,bZ Z own W W1->W1.cell? ad=some v->(execOp a.eval o).run P W1= .ok (.value v) W1∧(execOp a.eval o).events P W1 #[]= #[⟨.cell ad,false,false⟩])
 (hn:∀W1,bZ Z own W W1->Gw P main Z Stop own (G (b.at (a.put o.dst v) (.inRegion ops rest::kk)) cs) W1):
 Gw P main Z Stop own (G (b.at a (.inRegion ops (i::rest)::kk)) cs) W:=by
 refine Bh ho hw hk λW1 hr=>?_
 have hc1:W1.cell? ad=some v:=by
  rw [<-hc];unfold World.cell?;rw [hz.elim (hr.own _) (hr.ro _)]
 obtain ⟨h1,h2⟩:=h W1 hr hc1;refine ⟨v,W1,h1,uC.refl _, λe he=>?_,by rw [jT];exact hn W1 hr⟩;rw [h2] at he;simp at he;subst he;rw [jT];exact ⟨hnm,rfl,hz.elim .inl λx=>.inr (.inl ⟨x,rfl⟩)⟩
theorem Bj {ad:Addr} {x:Value} (ho:ops[i]?=some o) (hw:Region.wanted o (yielded ops a.tmps)=true) (hk:b.kind≠ .early) (hnm:¬Z.mute)
 (hz:own ad.block) (hns:¬Z.sy ad.block)
 (h:∀W1,bZ Z own W W1->(execOp a.eval o).run P W1= .ok .skip (W1.setCell ad x)∧∀e∈(execOp a.eval o).events P W1 #[],e.loc= .cell ad∧e.sync=false)
 (hn:∀W1,bZ Z own W W1->Gw P main Z Stop own (G (b.at (a.put o.dst undef) (.inRegion ops rest::kk)) cs) (W1.setCell ad x)):
 Gw P main Z Stop own (G (b.at a (.inRegion ops (i::rest)::kk)) cs) W:=by
 refine Gw.AL rfl λW1 hr=>?_
 obtain ⟨h1,h2⟩:=h W1 hr;have ha:=Go.Conc.aside_setCell W1 ad x
 have hg:grow own W1 (W1.setCell ad x)=own:=by
  funext c;apply propext;unfold grow;rw [ha.size];exact ⟨λh=>h.elim id λ⟨h1,h2⟩=>by omega,.inl⟩
 refine ⟨_,W1.setCell ad x,_,stepG_none ho hw hk h1,⟨ha.tape,ha.output,ha.os,Nat.le_of_eq ha.size.symm, λc hc hno _=>ha.block c λe=>hno (e ▸ hz), λc hc=>?_⟩, λe he=>?_,by rw [hg];exact hn W1 hr⟩
 ·have e:=ha.block c λe=>hns (e ▸ hc)
  refine ⟨by rw [e];exact xe.refl _, λi _=>?_⟩;unfold World.cell?;simp only [e]
 ·obtain ⟨e1,e2⟩:=h2 e (mem_listed he);obtain ⟨loc,wr,sy⟩:=e;dsimp only at e1 e2;subst e1 e2;rw [hg];exact ⟨hnm,rfl,.inl hz⟩
theorem xW {f:World->Value} {ob:Obj} (ho:ops[i]?=some o) (hw:Region.wanted o (yielded ops a.tmps)=true) (hk:b.kind≠ .early) (hnm:¬Z.mute) (hsy:∀b,Z.sy b->b<W.heap.size)
 (h:∀W1,bZ Z own W W1->(execOp a.eval o).run P W1= .ok (.value (f W1)) { W1 with heap:=W1.heap.push ob }∧∀e∈(execOp a.eval o).events P W1 #[],(∃ad:Addr,e.loc= .cell ad∧ad.block=W1.heap.size∨e.loc= .obj W1.heap.size)∧e.sync=false)
 (hn:∀W1,bZ Z own W W1->Gw P main Z Stop (λc=>own c∨c=W1.heap.size) (G (b.at (a.put o.dst (f W1)) (.inRegion ops rest::kk)) cs) { W1 with heap:=W1.heap.push ob }):
 Gw P main Z Stop own (G (b.at a (.inRegion ops (i::rest)::kk)) cs) W:=by
 refine Bh ho hw hk λW1 hr=>?_
 obtain ⟨h1,h2⟩:=h W1 hr
 have hg:grow own W1 { W1 with heap:=W1.heap.push ob }= λc=>own c∨c=W1.heap.size:=by
  funext c;apply propext;unfold grow;simp only [Array.size_push];exact ⟨λh=>h.imp id λ⟨h1,h2⟩=>by omega, λh=>h.imp id λe=>⟨by omega,by omega⟩⟩
 have hold:∀c,c<W1.heap.size->(W1.heap.push ob)[c]?=W1.heap[c]?:= λc hc=>by rw [Array.getElem?_push_lt hc,aH hc]
 refine ⟨f W1,_,h1,⟨rfl,rfl,rfl,by simp, λc hc _ _=>hold c hc, λc hc=>?_⟩, λe he=>?_,by rw [hg];exact hn W1 hr⟩
 ·have e:=hold c (ak (hsy c hc) hr.size);refine ⟨by rw [show ({ W1 with heap:=W1.heap.push ob }:World).heap=W1.heap.push ob from rfl,e];exact xe.refl _, λi _=>?_⟩;unfold World.cell?;simp only [e]
 ·obtain ⟨⟨ad,e1⟩,e2⟩:=h2 e he;obtain ⟨loc,wr,sy⟩:=e;dsimp only at e1 e2;subst e2;rw [hg];rcases e1 with ⟨rfl,e1⟩|rfl
  ·exact ⟨hnm,rfl,.inl (.inr e1)⟩
  ·exact ⟨hnm,rfl,.inr rfl⟩
end
end Par
end
section
namespace Par
open Go Go.Conc Go.ConcM Go.ConcN
section
variable {P:Program} {Mu Wg:Nat} {tM ty:TypeId} {N:Nat->Nat} {J:Nat->Nat->(Nat->Prop)->World->Prop} {ro:Nat->Prop} {Anch:(Nat->Prop)->Goroutine->World->Prop}
variable {X:jY (FT LT)} {own own' qE:Nat->Prop} {g g' child:Goroutine} {W:World} {j:Nat}
theorem ZQ (hr:g.status= .running) (ho:g.offers=none) (h1:stepG P true g W= .spawn g' child W #[]) (h2:∀b,own b↔own' b∨qE b) (h3:∀b,own' b->¬qE b)
 (h4:Gw P true ((qY Mu Wg tM ty N J ro Anch).Zs (j+1)) (X 0 (.st (eO (qY Mu Wg tM ty N J ro Anch) (j+1)) (j+1))) own' g' W)
 (h5:∀k,k≠0->Gw P false ((qY Mu Wg tM ty N J ro Anch).Zw j) (X k (tZ N j 0 0)) qE child W):
 rC P (qY Mu Wg tM ty N J ro Anch).sys X 0 (.st .EW j) own g W:=by
 refine ⟨hr, λ_=>ho, λs hs hf=>?_⟩;rw [if_neg (by show ¬(false=true);simp),if_pos (by show true=true;rfl)]
 have hon:On P (qY Mu Wg tM ty N J ro Anch).sys X 0 (.st (eO (qY Mu Wg tM ty N J ro Anch) (j+1)) (j+1)) own' g' W:=by
  unfold On;rw [if_neg (by show ¬(false=true);simp)]
  have hz:(qY Mu Wg tM ty N J ro Anch).sys.Z 0 (.st (eO (qY Mu Wg tM ty N J ro Anch) (j+1)) (j+1))=(qY Mu Wg tM ty N J ro Anch).Zs (j+1):=by
   unfold eO;split<;>rfl
  rw [hz];exact h4
 unfold tZ at h5
 by_cases hN:0<N j
 ·refine ⟨_,.bd j ⟨lk .ld,0,0⟩,s,g',child,qE,own',.bd ?_,h1,hs,h2,h3,hon, λk hk=>?_⟩
  ·show some _=if N j=0 then none else some _
   rw [if_neg (by omega)]
  ·have :=h5 k hk;rw [if_pos hN] at this;have e:(k==0)=false:=by simpa using hk
   unfold On;rw [if_neg (by show ¬(false=true);simp),e];exact this
 ·refine ⟨_,.wg j .wr,s,g',child,qE,own',.wg ?_,h1,hs,h2,h3,hon, λk hk=>?_⟩
  ·show none=if N j=0 then none else some _
   rw [if_pos (by omega)]
  ·have :=h5 k hk;rw [if_neg hN] at this;have e:(k==0)=false:=by simpa using hk
   unfold On;rw [if_neg (by show ¬(false=true);simp),e];exact this
end
end Par
end
