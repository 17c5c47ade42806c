/- Part 23. -/
import Derived.Test.YtnemnkmojiljmaaGreatB16
import Derived.Test.YtnemnkmojiljmaaGreatB18
set_option maxRecDepth 100000
set_option maxHeartbeats 0
set_option linter.all false
namespace Par
open Go Go.Conc Go.ConcM Go.ConcN
section
section
variable {P:Program} {main:Bool} {Z:gB} {own:Nat->Prop} {Stop:(Nat->Prop)->Goroutine->World->Prop}
variable {b:Frame} {a:Act} {kk:List Item} {cs:List Frame} {W:World} {ops:Array Oper} {i:Nat} {rest:List Nat} {o:Oper}
theorem CB (ho:ops[i]?=some o) (hw:Region.wanted o (yielded ops a.tmps)=true) (hk:b.kind≠ .early)
 (h:∀W1,dZ Z own W W1->∃v W',(execOp a.eval o).run P W1= .ok (.value v) W'∧vX Z own W1 W'∧(∀e∈(execOp a.eval o).events P W1 #[],QB Z (grow own W1 W') e)∧
   Gw P main Z Stop (grow own W1 W') (G (b.at (a.put o.dst v) (.inRegion ops rest::kk)) cs) W'):
 Gw P main Z Stop own (G (b.at a (.inRegion ops (i::rest)::kk)) cs) W:=by
 refine Gw.Cj rfl λW1 hr=>?_
 obtain ⟨v,W',h1,h2,h3,h4⟩:=h W1 hr;exact ⟨_,W',_,stepG_value ho hw hk h1,h2, λe he=>h3 e (mem_listed he),h4⟩
theorem CE {ad:Addr} {v:Value} (ho:ops[i]?=some o) (hw:Region.wanted o (yielded ops a.tmps)=true) (hk:b.kind≠ .early) (hnm:¬Z.mute)
 (hz:own ad.block∨Z.ro ad.block) (hc:W.cell? ad=some v)
 (h:∀W1,dZ Z own W W1->W1.cell? ad=some v->(execOp a.eval o).run P W1= .ok (.value v) W1∧(execOp a.eval o).events P W1 #[]= #[⟨.cell ad,false,false⟩])
 (hn:∀W1,dZ Z own W W1->Gw P main Z Stop own (G (b.at (a.put o.dst v) (.inRegion ops rest::kk)) cs) W1):
 Gw P main Z Stop own (G (b.at a (.inRegion ops (i::rest)::kk)) cs) W:=by
 refine CB ho hw hk λW1 hr=>?_
 have hc1:W1.cell? ad=some v:=by
  rw [<-hc];unfold World.cell?;rw [hz.elim (hr.own _) (hr.ro _)]
 obtain ⟨h1,h2⟩:=h W1 hr hc1;refine ⟨v,W1,h1,vX.refl _, λe he=>?_,by rw [lS];exact hn W1 hr⟩;rw [h2] at he;simp at he;subst he;rw [lS];exact ⟨hnm,rfl,hz.elim .inl λx=>.inr (.inl ⟨x,rfl⟩)⟩
theorem CF {ad:Addr} {x:Value} (ho:ops[i]?=some o) (hw:Region.wanted o (yielded ops a.tmps)=true) (hk:b.kind≠ .early) (hnm:¬Z.mute)
 (hz:own ad.block) (hns:¬Z.sy ad.block)
 (h:∀W1,dZ Z own W W1->(execOp a.eval o).run P W1= .ok .skip (W1.setCell ad x)∧∀e∈(execOp a.eval o).events P W1 #[],e.loc= .cell ad∧e.sync=false)
 (hn:∀W1,dZ Z own W W1->Gw P main Z Stop own (G (b.at (a.put o.dst undef) (.inRegion ops rest::kk)) cs) (W1.setCell ad x)):
 Gw P main Z Stop own (G (b.at a (.inRegion ops (i::rest)::kk)) cs) W:=by
 refine Gw.Cj rfl λW1 hr=>?_
 obtain ⟨h1,h2⟩:=h W1 hr;have ha:=Go.Conc.aside_setCell W1 ad x
 have hg:grow own W1 (W1.setCell ad x)=own:=by
  funext c;apply propext;unfold grow;rw [ha.size];exact ⟨λh=>h.elim id λ⟨h1,h2⟩=>by omega,.inl⟩
 refine ⟨_,W1.setCell ad x,_,stepG_none ho hw hk h1,⟨ha.tape,ha.output,ha.os,Nat.le_of_eq ha.size.symm, λc hc hno _=>ha.block c λe=>hno (e ▸ hz), λc hc=>?_⟩, λe he=>?_,by rw [hg];exact hn W1 hr⟩
 ·have e:=ha.block c λe=>hns (e ▸ hc)
  refine ⟨by rw [e];exact yE.refl _, λi _=>?_⟩;unfold World.cell?;simp only [e]
 ·obtain ⟨e1,e2⟩:=h2 e (mem_listed he);obtain ⟨loc,wr,sy⟩:=e;dsimp only at e1 e2;subst e1 e2;rw [hg];exact ⟨hnm,rfl,.inl hz⟩
theorem zn {f:World->Value} {ob:Obj} (ho:ops[i]?=some o) (hw:Region.wanted o (yielded ops a.tmps)=true) (hk:b.kind≠ .early) (hnm:¬Z.mute) (hsy:∀b,Z.sy b->b<W.heap.size)
 (h:∀W1,dZ Z own W W1->(execOp a.eval o).run P W1= .ok (.value (f W1)) { W1 with heap:=W1.heap.push ob }∧∀e∈(execOp a.eval o).events P W1 #[],(∃ad:Addr,e.loc= .cell ad∧ad.block=W1.heap.size∨e.loc= .obj W1.heap.size)∧e.sync=false)
 (hn:∀W1,dZ Z own W W1->Gw P main Z Stop (λc=>own c∨c=W1.heap.size) (G (b.at (a.put o.dst (f W1)) (.inRegion ops rest::kk)) cs) { W1 with heap:=W1.heap.push ob }):
 Gw P main Z Stop own (G (b.at a (.inRegion ops (i::rest)::kk)) cs) W:=by
 refine CB ho hw hk λW1 hr=>?_
 obtain ⟨h1,h2⟩:=h W1 hr
 have hg:grow own W1 { W1 with heap:=W1.heap.push ob }= λc=>own c∨c=W1.heap.size:=by
  funext c;apply propext;unfold grow;simp only [Array.size_push];exact ⟨λh=>h.imp id λ⟨h1,h2⟩=>by omega, λh=>h.imp id λe=>⟨by omega,by omega⟩⟩
 have hold:∀c,c<W1.heap.size->(W1.heap.push ob)[c]?=W1.heap[c]?:= λc hc=>by rw [Array.getElem?_push_lt hc,aX hc]
 refine ⟨f W1,_,h1,⟨rfl,rfl,rfl,by simp, λc hc _ _=>hold c hc, λc hc=>?_⟩, λe he=>?_,by rw [hg];exact hn W1 hr⟩
 ·have e:=hold c (aK (hsy c hc) hr.size);refine ⟨by rw [show ({ W1 with heap:=W1.heap.push ob }:World).heap=W1.heap.push ob from rfl,e];exact yE.refl _, λi _=>?_⟩;unfold World.cell?;simp only [e]
 ·obtain ⟨⟨ad,e1⟩,e2⟩:=h2 e he;obtain ⟨loc,wr,sy⟩:=e;dsimp only at e1 e2;subst e2;rw [hg];rcases e1 with ⟨rfl,e1⟩|rfl
  ·exact ⟨hnm,rfl,.inl (.inr e1)⟩
  ·exact ⟨hnm,rfl,.inr rfl⟩
end
end
section
section
variable {P:Program} {Mu Wg:Nat} {tM ty:TypeId} {N:Nat->Nat} {J:Nat->Nat->(Nat->Prop)->World->Prop} {ro:Nat->Prop} {Anch:(Nat->Prop)->Goroutine->World->Prop}
variable {X:lW (FT LT)} {own dL sw:Nat->Prop} {g g' child:Goroutine} {W:World} {j:Nat}
theorem ad6 (hr:g.status= .running) (ho:g.offers=none) (h1:stepG P true g W= .spawn g' child W #[]) (h2:∀b,own b↔dL b∨sw b) (h3:∀b,dL b->¬sw b)
 (h4:Gw P true ((tu Mu Wg tM ty N J ro Anch).Zs (j+1)) (X 0 (.st (gF (tu Mu Wg tM ty N J ro Anch) (j+1)) (j+1))) dL g' W)
 (h5:∀k,k≠0->Gw P false ((tu Mu Wg tM ty N J ro Anch).Zw j) (X k (vG N j 0 0)) sw child W):
 tL P (tu Mu Wg tM ty N J ro Anch).sys X 0 (.st .Gp j) own g W:=by
 refine ⟨hr, λ_=>ho, λs hs hf=>?_⟩;rw [aa (by show ¬(false=true);simp),aj (by show true=true;rfl)]
 have hon:On P (tu Mu Wg tM ty N J ro Anch).sys X 0 (.st (gF (tu Mu Wg tM ty N J ro Anch) (j+1)) (j+1)) dL g' W:=by
  unfold On;rw [aa (by show ¬(false=true);simp)]
  have hz:(tu Mu Wg tM ty N J ro Anch).sys.Z 0 (.st (gF (tu Mu Wg tM ty N J ro Anch) (j+1)) (j+1))=(tu Mu Wg tM ty N J ro Anch).Zs (j+1):=by
   unfold gF;split<;>rfl
  rw [hz];exact h4
 unfold vG at h5
 by_cases hN:0<N j
 ·refine ⟨_,.bd j ⟨lk .ld,0,0⟩,s,g',child,sw,dL,.bd ?_,h1,hs,h2,h3,hon, λk hk=>?_⟩
  ·show some _=if N j=0 then none else some _
   rw [aa (by omega)]
  ·have :=h5 k hk;rw [aj hN] at this;have e:(k==0)=false:=by simpa using hk
   unfold On;rw [aa (by show ¬(false=true);simp),e];exact this
 ·refine ⟨_,.wg j .wr,s,g',child,sw,dL,.wg ?_,h1,hs,h2,h3,hon, λk hk=>?_⟩
  ·show none=if N j=0 then none else some _
   rw [aj (by omega)]
  ·have :=h5 k hk;rw [aa hN] at this;have e:(k==0)=false:=by simpa using hk
   unfold On;rw [aa (by show ¬(false=true);simp),e];exact this
end
end
end Par
