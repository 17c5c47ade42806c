/- Part 4. -/
import Derived.Laws.AppendOwn
import Derived.Maps.AppendAt
import Derived.Laws.OwnMore
import Derived.Below
import Derived.Test.YtnemnkmojiljmaaGreatB01
set_option maxRecDepth 100000
set_option maxHeartbeats 0
set_option linter.all false
namespace Par
open Go
section
variable [Sh]
section
variable {P:Program} {F:Fit} {f:Nat->Nat} {α β:Type} {R:α->β->Prop}
theorem Ag.defs {w W:World} (h:Ag F f w W):ES F w:=by
 intro r ds hA hr;rcases h.wr.blk r _ hA hr with ⟨_,hS,_⟩|⟨_,c,e,fr,fr',h,_⟩|⟨_,c,fr,C,e',fr',h,_⟩
 ·exact hS
 ·cases h
 ·cases h
def CR (F:Fit) (f:Nat->Nat) (w1:World) (es es' x y:Array Event):Prop:=∃u:Array Event,x=es++u∧y=es'++u.map (rev f)∧∀e∈u,YA F w1 e
def Out (F:Fit) (w w1:World):Prop:=∃b,w.heap.size<=b∧b<w1.heap.size∧F.A b=false
theorem Out.mono {F:Fit} {w w0 w1:World} (h:Out F w0 w1) (hs:w.heap.size<=w0.heap.size):Out F w w1:=let ⟨b,h1,h2,h3⟩:=h;⟨b,aT hs h1,h2,h3⟩
def vQ (F:Fit) (f:Nat->Nat) {α β:Type} (R:α->β->Prop) (w W:World) (es es':Array Event) (x:Result α×Array Event) (y:Result β×Array Event):Prop:=
 Out F w (rw' x.1)∨match x.1 with
 | .ok a w1=>∃b W1,y.1= .ok b W1∧R a b∧Mv F f w W w1 W1∧CR F f w1 es es' x.2 y.2
 | .halt h w1=>Kz h∧ES F w1
theorem CR.EF {w0 W0 w1 W1:World} {es es' x y u0:Array Event} (h0:∀e∈u0,YA F w0 e) (hm:Mv F f w0 W0 w1 W1) (h:CR F f w1 (es++u0) (es'++u0.map (rev f)) x y):CR F f w1 es es' x y:=by
 obtain ⟨u,rfl,rfl,hu⟩:=h;refine ⟨u0++u,by simp [Array.append_assoc],by simp [Array.append_assoc], λe he=>?_⟩;rcases Array.mem_append.1 he with he|he
 ·exact (h0 e he).mono hm
 ·exact hu e he
theorem vQ.EF {w W w0 W0:World} {es es' u0:Array Event} {x:Result α×Array Event} {y:Result β×Array Event} (ha:Ag F f w W) (hm:Mv F f w W w0 W0) (h0:∀e∈u0,YA F w0 e)
 (h:vQ F f R w0 W0 (es++u0) (es'++u0.map (rev f)) x y):vQ F f R w W es es' x y:=by
 obtain ⟨x1,x2⟩:=x;cases x1 with
 |ok a w1=>
  rcases h with ho|⟨b,W1,h1,h2,h3,h4⟩
  ·obtain ⟨k,hk,_⟩:=hm.size;exact .inl (ho.mono (by omega))
  ·exact .inr ⟨b,W1,h1,h2,hm.trans ha h3,h4.EF h0 h3⟩
 |halt k w1=>
  rcases h with ho|h
  ·obtain ⟨k,hk,_⟩:=hm.size;exact .inl (ho.mono (by omega))
  ·exact .inr h
theorem vQ.yO {w W w0 W0:World} {es es':Array Event} {e:Event} {x:Result α×Array Event} {y:Result β×Array Event} (ha:Ag F f w W) (hm:Mv F f w W w0 W0) (h0:YA F w0 e)
 (h:vQ F f R w0 W0 (es.push e) (es'.push (rev f e)) x y):vQ F f R w W es es' x y:=by
 refine vQ.EF (u0:= #[e]) ha hm (by simpa using h0) ?_
 rw [show es++ #[e]=es.push e from by simp,show es'++ #[e].map (rev f)=es'.push (rev f e) from by simp];exact h
theorem vQ.EW {w W w0 W0:World} {es es':Array Event} {x:Result α×Array Event} {y:Result β×Array Event} (ha:Ag F f w W) (hm:Mv F f w W w0 W0)
 (h:vQ F f R w0 W0 es es' x y):vQ F f R w W es es' x y:=by
 refine vQ.EF (u0:= #[]) ha hm (by simp) ?_
 rw [show es++ #[]=es from by simp,show es'++ #[].map (rev f)=es' from by simp];exact h
theorem Ag.setObj {w W:World} (hf:∀a b,Sh.lk a=false->Sh.hol b=false->f a=f b->a=b) (h:Ag F f w W) {r:Nat} {o x:Obj} (hA:F.A r=true) (hx:w.heap[r]?=some x) (Ia:isCells x=false) (ho:oS F o) (hoc:isCells o=false):
 Mv F f w W { w with heap:=w.heap.setIfInBounds r o } { W with heap:=W.heap.setIfInBounds (f r) (ro f o) }:=by
 have hr:=(aI.1 hx).1;have hR:=h.wr.lt r hr hA;have hnl:∀y:Obj,isCells y=false->¬kT y:=by rintro y hy ⟨c,e,fr,rfl,_⟩;cases hy
 have hlk:Sh.lk r=false:=by
  rcases h.wr.blk _ _ hA hx with ⟨h1,_⟩|⟨h1,_⟩|⟨_,c,fr,C,e',fr',rfl,_⟩
  ·exact h1
  ·exact h1
  ·cases Ia
 refine ⟨⟨⟨λb hb KA=>by simpa using h.wr.lt b (by simpa using hb) KA, λb y KA hy=>?_⟩,h.tape, λj=>by simpa using h.next j, λb hb=>h.Kt b (by simpa using hb),h.hol⟩,rfl,rfl,rfl,rfl,rfl,⟨0,rfl,rfl⟩,⟨0,by simp,by simp⟩, λb y hy=>?_, λa v hv=>⟨v,?_⟩, λB hB=>?_⟩
 ·by_cases e:r=b
  ·subst e;rw [aD hr] at hy;cases hy;refine .inl ⟨hlk,ho,hoc,?_⟩;simp only [];rw [aD hR]
  ·rw [au e] at hy;simp only [];rw [au (λx=>e (hf _ _ hlk (h.hol b KA) x))];exact h.wr.blk b y KA hy
 ·by_cases e:r=b
  ·subst e;rw [hx] at hy;cases hy;exact ⟨o,by simp only [];rw [aD hr],iff_of_false (hnl _ hoc) (hnl _ Ia),hoc.trans Ia.symm, λhl=>absurd hl (hnl _ Ia)⟩
  ·exact ⟨y,by simp only [];rw [au e];exact hy,Iff.rfl,rfl, λ_=>rfl⟩
 ·unfold World.cell? at hv ⊢;simp only []
  by_cases e:r=a.block
  ·rw [<-e,hx] at hv;cases x<;>first |cases hv|cases Ia
  ·rw [au e];exact hv
 ·by_cases e:f r=B
  ·exact .inr ⟨r,x,hA,hx,e,hnl _ Ia⟩
  ·exact .inl (by simp only [];rw [au e])
omit [Sh] in
theorem yP (w:World) (c:Array Value) (e:TypeId):
 ({ w with heap:=w.heap.push (.cells c e (0,0)) }:World).freeze ⟨w.heap.size,c.size,none⟩ 1= { w with heap:=w.heap.push (.cells c e (c.size,c.size+1)) }:=by
 unfold World.freeze;simp only [Nat.one_ne_zero,if_false];congr 1;apply Array.ext
 ·simp
 ·intro i h1 h2;simp only [Array.size_modify,Array.size_push] at h1;rw [Array.getElem_modify]
  by_cases hi:i=w.heap.size
  ·subst hi;simp
  ·rw [aa (Ne.symm hi)];rw [Array.getElem_push_lt (by omega),Array.getElem_push_lt (by omega)]
theorem BF {o:Obj} (h:oS F o):o.isChan=false:=by
 cases o<;>first |rfl|exact h.elim
theorem KF (o:Obj):isCells (ro f o)=isCells o:=by cases o<;>rfl
omit [Sh] in
theorem xB {γ:Type} {w:World} {r:Nat} {o:Obj} (k:Obj->Sem γ) (es:Array Event) (hr:w.heap[r]?=some o) (hc:isCells o=false):
 Sem.runT P (.getObj r k) w es=(k o).runT P w (es.push ⟨.obj r,false,o.isChan⟩):=by
 cases o<;>first |(cases hc;done)|(simp only [Sem.runT,hr])
omit [Sh] in
theorem uA {γ:Type} {w:World} {r:Nat} {x:Obj} (o:Obj) (k:Sem γ) (es:Array Event) (hr:w.heap[r]?=some x) (hc:isCells x=false):
 Sem.runT P (.setObj r o k) w es=k.runT P { w with heap:=w.heap.setIfInBounds r o } (es.push ⟨.obj r,true,o.isChan⟩):=by
 cases x<;>first |(cases hc;done)|(simp only [Sem.runT,hr])
theorem dN.EX {Q:Program} (hQ:Alike P Q) (hf:∀a b,Sh.lk a=false->Sh.hol b=false->f a=f b->a=b) {m:Sem α} {m':Sem β} (h:dN P F f R m m'):
 ∀(w W:World) (es es':Array Event),Ag F f w W->vQ F f R w W es es' (m.runT P w es) (m'.runT Q W es'):=by
 have ev0:∀(w:World) (es es':Array Event),CR F f w es es' es es':= λw es es'=>⟨#[],by simp,by simp,by simp⟩
 induction h with
 |pure h=>intro w W es es' ha;exact .inr ⟨_,W,rfl,h,Mv.refl ha,ev0 ..⟩
 | @load a k k' hA h ih=>
   intro w W es es' ha;simp only [Sem.runT];cases hc:w.cell? a with
   |none=>
    obtain ⟨x,hx,hb⟩:=(ha.wr.noCell a hA "").2 P (Mode.plain==Mode.atomic);simp only [hx];exact .inr ⟨hb,ha.defs⟩
   |some v=>
    obtain ⟨h1,h2⟩:=ha.wr.cell hA hc;simp only [h1];exact vQ.yO (e:=⟨.cell a,false,false⟩) ha (Mv.refl ha) ⟨rfl,hA,⟨v,hc⟩,by simp⟩ (ih v h2 w W _ _ ha)
 | @store a v k k' hA hv h ih=>
   intro w W es es' ha
   have hs:(∃c,v= .agg c∨v= .tuple c)∨((∀c,v≠ .agg c∧v≠ .tuple c)):=by
    cases v<;>first |(refine .inr λc=>⟨?_,?_⟩<;>(intro h;cases h;done))|exact .inl ⟨_,.inl rfl⟩|exact .inl ⟨_,.inr rfl⟩
   rcases hs with ⟨c,rfl|rfl⟩|hs
   ·simp only [Sem.runT];exact .inr ⟨trivial,ha.defs⟩
   ·simp only [Sem.runT];exact .inr ⟨trivial,ha.defs⟩
   ·have e1:∀(w:World) (es:Array Event),Sem.runT P (.store .plain a v k) w es=match w.cell? a with
     |some _=>if w.frozen? a then (.halt (.unsupported (.unsafePointer "a write to bytes that a string shares")) w,es) else k.runT P (w.setCell a v) (es.push ⟨.cell a,true,false⟩)
     |none=>match w.farStore P a v false with
      | .ok (w,touched)=>k.runT P w (es++touched.toArray.map (⟨.cell ·,true,false⟩))
      | .error h=>(.halt h w,es):=by
     intro w es;cases v<;>first |rfl|exact absurd rfl (hs _).1|exact absurd rfl (hs _).2
    have e2:∀(w:World) (es:Array Event),Sem.runT Q (.store .plain (ra f a) (rv f v) k') w es=match w.cell? (ra f a) with
     |some _=>if w.frozen? (ra f a) then (.halt (.unsupported (.unsafePointer "a write to bytes that a string shares")) w,es) else k'.runT Q (w.setCell (ra f a) (rv f v)) (es.push ⟨.cell (ra f a),true,false⟩)
     |none=>match w.farStore Q (ra f a) (rv f v) false with
      | .ok (w,touched)=>k'.runT Q w (es++touched.toArray.map (⟨.cell ·,true,false⟩))
      | .error h=>(.halt h w,es):=by
     intro w es;cases v<;>first |(simp only [mZ,jE,wu,rU,gM,eX,fT,tF,xx,tN,nV,uu,lu];rfl)|exact absurd rfl (hs _).1|exact absurd rfl (hs _).2
    rw [e1,e2];cases hc:w.cell? a with
    |none=>
     obtain ⟨x,hx,hb⟩:=ha.wr.OE a hA P v false;simp only [hx];exact .inr ⟨hb,ha.defs⟩
    |some x=>
     obtain ⟨h1,_⟩:=ha.wr.cell hA hc;simp only [h1];cases hz:w.frozen? a with
     |true=>simp only [if_true];exact .inr ⟨trivial,ha.defs⟩
     |false=>
      rw [ha.wr.frozen hA hc hz];simp only [bD,if_false];obtain ⟨hm,o,ho,hl⟩:=ha.store hf hA hc hz hv;obtain ⟨o1,ho1,hl1,_⟩:=hm.lock _ o ho;exact vQ.yO (e:=⟨.cell a,true,false⟩) ha hm ⟨rfl,hA,DT hc, λ_=>⟨o1,ho1, λy=>hl (hl1.1 y)⟩⟩ (ih _ _ _ _ hm.ag)
 | @new o k k' ho h ih=>
   intro w W es es' ha;simp only [Sem.runT];have hn:f w.heap.size=W.heap.size:=by simpa using ha.next 0
   have hm:Mv F f w W { w with heap:=w.heap.push o } { W with heap:=W.heap.push (ro f o) }:=ha.new (by
    cases o with
    |cells c e fr=>exact .inr (.inl ⟨ha.Kt _ (aJ _),c,e,fr,fr,rfl,ho,rfl, λi _ h1 h2=>⟨h1,h2⟩⟩)
    |_=>exact .inl ⟨ha.Kt _ (aJ _),ho,rfl,rfl⟩)
   rw [<-hn];cases hA:F.A w.heap.size with
   |true=>exact vQ.EW ha hm (ih _ hA (ha.Kt _ (aJ _)) _ _ _ _ hm.ag)
   |false=>
    have :=runT_size (P:=P) (k w.heap.size) { w with heap:=w.heap.push o } es;simp only [Array.size_push] at this;exact .inl ⟨w.heap.size,aJ _,by omega,hA⟩
 | @rW c e k0 k0' k k' ho e1 e2 h ih=>
   intro w W es es' ha;have hn:f w.heap.size=W.heap.size:=by simpa using ha.next 0
   have hsh:∀(w:World) (c:Array Value),World.shape? { w with heap:=w.heap.push (.cells c e (0,0)) } w.heap.size=some (e,c.size):=by
    intro w c;simp [World.shape?]
   simp only [Sem.runT];have aj1:=hsh W (c.map (rv f));rw [Array.size_map] at aj1;rw [hsh w c,aj1,e1, <-hn,e2,hn];simp only [Sem.runT];have hfr:=yP W (c.map (rv f)) e;rw [Array.size_map] at hfr;rw [yP,hfr]
   have hm:Mv F f w W { w with heap:=w.heap.push (.cells c e (c.size,c.size+1)) } { W with heap:=W.heap.push (.cells (c.map (rv f)) e (c.size,c.size+1)) }:=
    ha.new (.inr (.inl ⟨ha.Kt _ (aJ _),c,e,_,(c.size,c.size+1),rfl,ho,rfl, λi _ h1 h2=>⟨h1,h2⟩⟩))
   cases hA:F.A w.heap.size with
   |true=>
    have :=ih w.heap.size hA (ha.Kt _ (aJ _)) _ _ es es' hm.ag;rw [hn] at this;exact vQ.EW ha hm this
   |false=>
    have :=runT_size (P:=P) (k w.heap.size) { w with heap:=w.heap.push (.cells c e (c.size,c.size+1)) } es;simp only [Array.size_push] at this;exact .inl ⟨w.heap.size,aJ _,by omega,hA⟩
 | @shape r k k' hA h hl ih ihl=>
   intro w W es es' ha;simp only [Sem.runT]
   by_cases hk:∃c fr C e' fr',w.heap[r]?=some (.cells c Sh.bad fr)∧W.heap[f r]?=some (.cells C e' fr')∧Sh.lk r=true
   ·obtain ⟨c,fr,C,e',fr',h1,h2,h3⟩:=hk;have e1:w.shape? r=some (Sh.bad,c.size):=by unfold World.shape?;rw [h1]
    have e2:W.shape? (f r)=some (e',C.size):=by unfold World.shape?;rw [h2]
    rw [e1,e2];exact ihl h3 _ _ w W es es' ha
   have :W.shape? (f r)=w.shape? r:=by
    unfold World.shape?;cases hr:w.heap[r]? with
    |none=>
     have h1:w.heap.size<=r:=by
      rcases bu r w.heap.size with h|h
      ·simp [h] at hr
      ·exact h
     have h2:=ha.next (r - w.heap.size);rw [show w.heap.size+(r - w.heap.size)=r from by omega] at h2;have :W.heap[f r]?=none:=by simp;omega
     rw [this]
    |some o=>
     rcases ha.wr.blk r o hA hr with ⟨_,_,hc,hO⟩|⟨_,c,e,fr,fr',rfl,_,hO,_⟩|⟨h3,c,fr,C,e',fr',rfl,_,_,h2,_⟩
     ·rw [hO];cases o<;>first |rfl|cases hc
     ·rw [hO];simp
     ·exact absurd ⟨c,fr,C,e',fr',hr,h2,h3⟩ hk
   rw [this];refine ih _ (λh3=>?_) w W es es' ha;unfold World.shape?;cases hr:w.heap[r]? with
   |none=>rfl
   |some o=>
    rcases ha.wr.blk r o hA hr with ⟨h4,_⟩|⟨h4,_⟩|⟨_,c,fr,C,e',fr',rfl,_,_,h2,_⟩
    ·rw [h4] at h3;cases h3
    ·rw [h4] at h3;cases h3
    ·exact absurd ⟨c,fr,C,e',fr',hr,h2,h3⟩ hk
 | @getObj r k k' hA h ih=>
   intro w W es es' ha;cases hr:w.heap[r]? with
   |none=>simp only [Sem.runT,hr];exact .inr ⟨trivial,ha.defs⟩
   |some o=>
    by_cases hc:isCells o=true
    ·cases o<;>first |(simp only [Sem.runT,hr];exact .inr ⟨trivial,ha.defs⟩)|cases hc
    ·have hc':isCells o=false:=by simpa using hc
     rcases ha.wr.blk r o hA hr with ⟨hlk,hS,_,hO⟩|⟨_,c,e,fr,fr',rfl,_⟩|⟨_,c,fr,C,e',fr',rfl,_⟩
     ·have hch:=BF hS;rw [xB k es hr hc',xB k' es' hO ((KF o).trans hc'),Io,hch];exact vQ.yO (e:=⟨.obj r,false,false⟩) ha (Mv.refl ha) ⟨rfl,hA,o,hr,hc'⟩ (ih o hS hc' hlk w W _ _ ha)
     ·cases hc'
     ·cases hc'
 | @ET r k m' hA hl=>
   intro w W es es' ha;rcases ha.wr.Jw hA hl with hr|⟨c,fr,hr⟩<;>(simp only [Sem.runT,hr];exact .inr ⟨trivial,ha.defs⟩)
 | @setObj r o k k' hA ho hc h ih=>
   intro w W es es' ha;cases hr:w.heap[r]? with
   |none=>simp only [Sem.runT,hr];exact .inr ⟨trivial,ha.defs⟩
   |some x=>
    by_cases Ia:isCells x=true
    ·cases x<;>first |(simp only [Sem.runT,hr];exact .inr ⟨trivial,ha.defs⟩)|cases Ia
    ·have Ib:isCells x=false:=by simpa using Ia
     rcases ha.wr.blk r x hA hr with ⟨_,hS,_,hO⟩|⟨_,c,e,fr,fr',rfl,_⟩|⟨_,c,fr,C,e',fr',rfl,_⟩
     ·have hch:=BF ho;rw [uA o k es hr Ib,uA (ro f o) k' es' hO ((KF x).trans Ib),Io,hch];have hm:=ha.setObj hf hA hr Ib ho hc;obtain ⟨o1,ho1,_,hc1,_⟩:=hm.lock r x hr;exact vQ.yO (e:=⟨.obj r,true,false⟩) ha hm ⟨rfl,hA,o1,ho1,hc1.trans Ib⟩ (ih _ _ _ _ hm.ag)
     ·cases Ib
     ·cases Ib
 | @choose q k k' h ih=>
   intro w W es es' ha;simp only [Sem.runT]
   by_cases hq:q.forced=true
   ·simp only [hq,if_true];exact ih 0 w W es es' ha
   ·simp only [hq,if_false,bD];have ht:=ha.tape 0 q;simp only [aH] at ht;rw [ht]
    have hm:Mv F f w W { w with drawn:=w.drawn+1 } { W with drawn:=W.drawn+1 }:=
     ⟨⟨⟨ha.wr.lt,ha.wr.blk⟩, λj q'=>by have :=ha.tape (1+j) q';simpa [Nat.add_assoc] using this,ha.next,ha.Kt,ha.hol⟩,rfl,rfl,rfl,rfl,rfl,⟨1,rfl,rfl⟩,⟨0,rfl,rfl⟩, λ_ o ho=>⟨o,ho,Iff.rfl,rfl, λ_=>rfl⟩, λ_ v hv=>⟨v,hv⟩, λ_ _=>.inl rfl⟩
    exact vQ.EW ha hm (ih _ _ _ es es' hm.ag)
 |program e h ih=>intro w W es es' ha;simp only [Sem.runT];rw [e Q hQ];exact ih w W es es' ha
 |noRoom h ih=>
  intro w W es es' ha;simp only [Sem.runT];exact vQ.yO (e:=⟨.mark .noRoom,false,true⟩) ha (Mv.refl ha) ⟨rfl,rfl⟩ (ih w W _ _ ha)
 |oP h=>
  intro w W es es' ha;obtain ⟨x,w',es1,h1,h2,h3⟩:=h w es;rw [h1];exact .inr ⟨h2, λr ds hA hr=>ha.defs r ds hA (h3 r ds hr)⟩
theorem dN.run (hf:∀a b,Sh.lk a=false->Sh.hol b=false->f a=f b->a=b) {m:Sem α} {m':Sem β} (h:dN P F f R m m'):
 ∀(w W:World) (es es':Array Event),Ag F f w W->vQ F f R w W es es' (m.runT P w es) (m'.runT P W es'):=h.EX (Alike.refl P) hf
end
end
section
variable [Sh]
def fA:Value->Bool
 | .bool _| .int .. | .string _| .nilFunc| .nilIface=>true
 | .pointer a=>a.isNone
 | .slice a .. =>a.isNone
 | .map a=>a.isNone
 | .chan a=>a.isNone
 |_=>false
def R9:Value->Bool
 | .agg cs=>cs.all fA
 |v=>fA v
def plain0:Value->Bool
 | .tuple cs=>cs.all R9
 |v=>fA v
def uB:Value->Bool
 | .agg cs=>cs.all plain0
 |v=>plain0 v
theorem kE {F:Fit} {f:Nat->Nat} {v:Value} (h:fA v=true):rv f v=v∧vs F v=true:=by
 cases v with
 |pointer a=>cases a<;>first |(cases h;done)|simp
 |slice a _ _=>cases a<;>first |(cases h;done)|simp
 |map a=>cases a<;>first |(cases h;done)|simp
 |chan a=>cases a<;>first |(cases h;done)|simp
 |_=>first |(cases h;done)|simp
theorem P9 {F:Fit} {f:Nat->Nat} {v:Value} (h:R9 v=true):rv f v=v∧vs F v=true:=by
 cases v with
 |agg cs=>
  have key:∀x∈cs,rv f x=x∧vs F x=true:= λx hx=>kE (aV.1 h x hx)
  refine ⟨?_,rV.2 λx hx=>(key x hx).2⟩;rw [uw];congr 1;exact (Array.map_congr_left λx hx=>(key x hx).1).trans (Array.map_id _)
 |_=>exact kE h
theorem Iq {F:Fit} {f:Nat->Nat} {v:Value} (h:plain0 v=true):rv f v=v∧vs F v=true:=by
 cases v with
 |tuple cs=>
  have key:∀x∈cs,rv f x=x∧vs F x=true:= λx hx=>P9 (aV.1 h x hx)
  refine ⟨?_,wC.2 λx hx=>(key x hx).2⟩;rw [wz];congr 1;exact (Array.map_congr_left λx hx=>(key x hx).1).trans (Array.map_id _)
 |_=>exact kE h
theorem CS {F:Fit} {f:Nat->Nat} {v:Value} (h:uB v=true):rv f v=v∧vs F v=true:=by
 cases v with
 |agg cs=>
  have key:∀x∈cs,rv f x=x∧vs F x=true:= λx hx=>Iq (aV.1 h x hx)
  refine ⟨?_,rV.2 λx hx=>(key x hx).2⟩;rw [uw];congr 1;exact (Array.map_congr_left λx hx=>(key x hx).1).trans (Array.map_id _)
 |_=>exact Iq h
theorem DV {v:Value} (h:uB v=true):v.cells.all plain0=true:=by
 cases v with
 |agg cs=>exact h
 |_=>simpa [Value.cells,uB] using h
def rX (info:TypeId->Option TypeInfo):Prop:=∀t i v,info t=some i->i.zero=some v->uB v=true
theorem Ir {σ:Type} (I:σ->Prop) {γ:Type} (body:γ->σ->Option (ForInStep σ)) (hb:∀a s s',I s->body a s=some s'->match s' with | .yield x=>I x| .done x=>I x):
 ∀(l:List γ) (s s':σ),I s->forIn l s body=some s'->I s'
 | [],s,s',h,e=>by simp at e;exact e ▸ h
 |a::l,s,s',h,e=>by
  rw [List.forIn_cons] at e;cases hx:body a s with
  |none=>rw [hx] at e;cases e
  |some y=>
   rw [hx] at e;have :=hb a s y h hx;cases y with
   |done x=>cases e;exact this
   |yield x=>exact Ir I body hb l x s' this e
theorem Qa {info:TypeId->Option TypeInfo} (hi:rX info) {t:TypeId} {i:TypeInfo} (h:info t=some i) {z:Option (Array Value)} {n:Nat} (hz:∀a,z=some a->a.all plain0=true):
 ∀a,(if n > Made.mostCells then none else do pure ((<-z)++(<-i.zero).cells))=some a->a.all plain0=true:=by
 intro a ha;split at ha
 ·cases ha
 ·obtain ⟨x,hx,ha⟩:=aP.1 ha;obtain ⟨y,hy,ha⟩:=aP.1 ha;cases ha;have h1:=hz x hx;have h2:=DV (hi t i y h hy);rw [aV] at h1 h2 ⊢;intro v hv;rcases Array.mem_append.1 hv with hv|hv
  ·exact h1 v hv
  ·exact h2 v hv
theorem Av {info:TypeId->Option TypeInfo} (hi:rX info) {fs:Array Field} {i:TypeInfo} {v:Value} (h:Made.reckonStruct info fs=some i) (hv:i.zero=some v):uB v=true:=by
 unfold Made.reckonStruct at h;simp only [<-Array.forIn_toList] at h;obtain ⟨s,hs,h⟩:=aP.1 h
 have hI:=Ir (λs:Array Field×Nat×Nat×Nat×Nat×Bool×Bool×Option (Array Value)×String=>∀a,s.2.2.2.2.2.2.2.1=some a->a.all plain0=true) _ (λf s s' hI e=>by
  obtain ⟨i,hii,e⟩:=aP.1 e;have key:=Qa (n:=s.2.1+i.size) hi hii hI
  by_cases c1:i.str.isEmpty=true
  ·rw [aj c1] at e;cases e
  rw [aa c1] at e
  by_cases c2:f.embedded=true
  ·rw [aj c2] at e;cases e
  rw [aa c2] at e
  by_cases c3:f.tag.isEmpty=true
  ·rw [aj c3] at e;obtain ⟨tag,_,e⟩:=aP.1 e
   by_cases c4:i.bytes=0
   ·rw [aj c4] at e;cases e;exact key
   ·rw [aa c4] at e;cases e;exact key
  ·rw [aa c3] at e;obtain ⟨tag,_,e⟩:=aP.1 e
   by_cases c4:i.bytes=0
   ·rw [aj c4] at e;cases e;exact key
   ·rw [aa c4] at e;cases e;exact key) _ _ _ (by intro a ha;cases ha;simp) hs
 have fin:∀j:TypeInfo,some j=some i->j.zero=s.2.2.2.2.2.2.2.1.map .agg->uB v=true:=by
  intro j e hj;cases e;rw [hj] at hv;obtain ⟨a,ha,rfl⟩:=Option.map_eq_some_iff.1 hv;exact hI a ha
 split at h<;>exact fin _ h rfl
theorem JA {info:TypeId->Option TypeInfo} (hi:rX info) {d:TypeDesc} {i:TypeInfo} {v:Value} (h:Made.reckon info d=some i) (hv:i.zero=some v):uB v=true:=by
 unfold Made.reckon at h;cases d with
 |pointer e=>
  obtain ⟨j,_,h⟩:=aP.1 h;split at h
  ·cases h
  ·split at h
   ·cases h
   ·obtain ⟨x,_,h⟩:=aP.1 h;cases h;cases hv;rfl
  ·obtain ⟨x,_,h⟩:=aP.1 h;cases h;cases hv;rfl
 |slice e=>
  obtain ⟨j,_,h⟩:=aP.1 h;obtain ⟨x,_,h⟩:=aP.1 h;cases h;cases hv;rfl
 |map k e=>
  obtain ⟨j,_,h⟩:=aP.1 h;obtain ⟨x,_,h⟩:=aP.1 h;obtain ⟨j',_,h⟩:=aP.1 h;obtain ⟨x',_,h⟩:=aP.1 h;cases h;cases hv;rfl
 |chan dir e=>
  obtain ⟨j,_,h⟩:=aP.1 h;obtain ⟨x,_,h⟩:=aP.1 h;cases h;cases hv;rfl
 |func ps rs vr=>
  obtain ⟨x,_,h⟩:=aP.1 h;cases h;cases hv;rfl
 |array n e=>
  obtain ⟨j,hj,h⟩:=aP.1 h;obtain ⟨x,_,h⟩:=aP.1 h;cases h;dsimp only at hv;split at hv
  ·cases hv
  ·split at hv
   ·cases hv;simp [uB]
   ·obtain ⟨z,hz,rfl⟩:=Option.map_eq_some_iff.1 hv;have :=DV (hi e j z hj hz);show (Array.flatten _).all plain0=true;rw [aV] at this ⊢;intro y hy;obtain ⟨c,hc,hyc⟩:=Array.mem_flatten.1 hy;rw [(Array.mem_replicate.1 hc).2] at hyc;exact this y hyc
 |struct fs=>exact Av hi h hv
 |_=>cases h
theorem BG {T:Tables} (hT:rX λt=>T.types[t]?):∀n,rX (Made.infoAt T n)
 |0=>by intro t i v h;cases h
 |n+1=>by
  intro t i v h hv;unfold Made.infoAt at h;split at h
  ·exact hT t i v h hv
  ·obtain ⟨d,_,h⟩:=aP.1 h;exact JA (BG hT n) h hv
theorem MW {T:Tables} (hT:rX λt=>T.types[t]?):rX T.info?:=by
 intro t i v h hv;unfold Tables.info? at h;split at h
 ·exact hT t i v h hv
 ·exact BG hT _ t i v h hv
def jD (P:Program):Bool:=P.types.all λi=>match i.zero with |some v=>uB v|none=>true
structure Rn (P:Program) (f:Nat->Nat):Prop where
 inj:∀a b,Sh.lk a=false->Sh.hol b=false->f a=f b->a=b
 kU:∀b,b<=P.globals.size->f b=b
 gK:jD P=true
 glk:∀b,b<=P.globals.size->Sh.lk b=false
 bad:∀b,Sh.lk b=true->P.info? Sh.bad=none
 cc:∀b,Sh.lk b=true->∀t i,P.info? t=some i->∀u,i.desc≠ .named "sync.copyChecker" u
def VR (F:Fit) (f:Nat->Nat) (v v':Value):Prop:=v'=rv f v∧vs F v=true
def AR (F:Fit) (f:Nat->Nat) (a a':Addr):Prop:=a'=ra f a∧F.A a.block=true
def kZ (F:Fit) (f:Nat->Nat) (v v':Array Value):Prop:=v'=v.map (rv f)∧VS F v
section
variable {P:Program} {F:Fit} {f:Nat->Nat} {α β γ δ:Type}
theorem dN.mono {R R':α->β->Prop} {m:Sem α} {m':Sem β} (h:dN P F f R m m') (hr:∀a b,R a b->R' a b):dN P F f R' m m':=by
 induction h with
 |pure h=>exact .pure (hr _ _ h)
 |load hA h ih=>exact .load hA λv hv=>ih v hv
 |store hA hv h ih=>exact .store hA hv ih
 |new ho h ih=>exact .new ho ih
 |rW ho e1 e2 h ih=>exact .rW ho e1 e2 ih
 |shape hA h hl ih ihl=>exact .shape hA ih ihl
 |getObj hA h ih=>exact .getObj hA λo h1 h2 h3=>ih o h1 h2 h3
 |ET hA hl=>exact .ET hA hl
 |setObj hA ho hc h ih=>exact .setObj hA ho hc ih
 |choose h ih=>exact .choose ih
 |program e h ih=>exact .program e ih
 |noRoom h ih=>exact .noRoom ih
 |oP h=>exact .oP h
theorem runT_bind (m:Sem α) (k:α->Sem γ):∀(w:World) (es:Array Event),Sem.runT P (m.bind k) w es=match Sem.runT P m w es with
 |(.ok a w',es')=>Sem.runT P (k a) w' es'
 |(.halt h w',es')=>(.halt h w',es'):=by
 induction m with
 |pure a=>intro w es;rfl
 |load m a k' ih=>
  intro w es;simp only [Sem.bind,Sem.runT];cases w.cell? a with
  |some v=>exact ih v _ _
  |none=>
   dsimp only;cases w.farLoad P a (m== .atomic) with
   |ok x=>exact ih _ _ _
   |error x=>rfl
 |store m a v k' ih=>
  intro w es
  cases v<;>first
   |rfl
   |(simp only [Sem.bind,Sem.runT];cases w.cell? a with
     |some x=>
      dsimp only
      by_cases hz:w.frozen? a=true
      ·simp only [hz,if_true]
      ·simp only [hz,if_false,bD];exact ih _ _
     |none=>
      dsimp only;cases w.farStore P a _ (m== .atomic) with
      |ok x=>exact ih _ _
      |error x=>rfl)
 |new o k' ih=>intro w es;exact ih _ _ _
 |shape r k' ih=>intro w es;exact ih _ _ _
 |freeze a n k' ih=>intro w es;exact ih _ _
 |frozen a k' ih=>intro w es;exact ih _ _ _
 |getObj r k' ih=>
  intro w es;simp only [Sem.bind,Sem.runT];cases hr:w.heap[r]? with
  |none=>rfl
  |some o=>cases o<;>first |rfl|exact ih _ _ _
 |setObj r o k' ih=>
  intro w es;simp only [Sem.bind,Sem.runT];cases hr:w.heap[r]? with
  |none=>rfl
  |some o=>cases o<;>first |rfl|exact ih _ _
 |choose q k' ih=>
  intro w es;simp only [Sem.bind,Sem.runT]
  by_cases hq:q.forced=true
  ·simp only [hq,if_true];exact ih _ _ _
  ·simp only [hq,if_false,bD];exact ih _ _ _
 |sys c k' ih=>intro w es;exact ih _ _ _
 |program k' ih=>intro w es;exact ih _ _ _
 |mark m k' ih=>intro w es;exact ih _ _
 |halt h=>intro w es;rfl
theorem dN.Sa {R:α->β->Prop} {R':γ->δ->Prop} {m:Sem α} {m':Sem β} {k:α->Sem γ} {k':β->Sem δ} (h:dN P F f R m m') (hk:∀a b,R a b->dN P F f R' (k a) (k' b)):
 dN P F f R' (m.bind k) (m'.bind k'):=by
 induction h with
 |pure h=>exact hk _ _ h
 |load hA h ih=>exact .load hA λv hv=>ih v hv
 |store hA hv h ih=>exact .store hA hv ih
 |new ho h ih=>exact .new ho ih
 |rW ho e1 e2 h ih=>exact .rW (k:= λr=>(_:Sem α).bind k) (k':= λr=>(_:Sem β).bind k') ho (λr=>by rw [e1];rfl) (λr=>by rw [e2];rfl) ih
 |shape hA h hl ih ihl=>exact .shape hA ih ihl
 |getObj hA h ih=>exact .getObj hA λo h1 h2 h3=>ih o h1 h2 h3
 |ET hA hl=>exact .ET hA hl
 |setObj hA ho hc h ih=>exact .setObj hA ho hc ih
 |choose h ih=>exact .choose ih
 |program e h ih=>exact .program (λQ hQ=>by show (_:Sem β).bind _=_;rw [e Q hQ]) ih
 |noRoom h ih=>exact .noRoom ih
 |oP h=>
  refine .oP λw es=>?_
  obtain ⟨x,w',es',h1,h2⟩:=h w es;exact ⟨x,w',es',by rw [runT_bind,h1],h2⟩
theorem dN.bind {R:α->β->Prop} {R':γ->δ->Prop} {m:Sem α} {m':Sem β} {k:α->Sem γ} {k':β->Sem δ} (h:dN P F f R m m') (hk:∀a b,R a b->dN P F f R' (k a) (k' b)):
 dN P F f R' (m >>=k) (m' >>=k'):=h.Sa hk
theorem dN.dY {R':γ->δ->Prop} {m m':Sem α} {k:α->Sem γ} {k':α->Sem δ} (h:dN P F f Eq m m') (hk:∀a,dN P F f R' (k a) (k' a)):dN P F f R' (m >>=k) (m' >>=k'):=
 h.bind λa b e=>by subst e;exact hk a
theorem dN.ret {R:α->β->Prop} {a:α} {b:β} (h:R a b):dN P F f R (Pure.pure a) (Pure.pure b):=.pure h
theorem zw (s:String):Kz (.stuck s):=trivial
theorem gU {R:α->β->Prop} (s:String) (m':Sem β):dN P F f R (stuck s) m':=.bad (zw s)
theorem yQ {R:α->β->Prop} {u:Unsupported} (h:∀g,u≠ .initOrder g) (m':Sem β):dN P F f R (unsupported u) m':=.bad (by cases u<;>first |trivial|exact absurd rfl (h _))
theorem OH (a:Addr) (hA:F.A a.block=true):dN P F f (VR F f) (load a) (load (ra f a)):=.load hA λ_ hv=>.pure ⟨rfl,hv⟩
theorem Sc (a:Addr) (hA:F.A a.block=true) {v:Value} (hv:vs F v=true):dN P F f Eq (store a v) (store (ra f a) (rv f v)):=.store hA hv (.pure rfl)
theorem um {o:Obj} (ho:oS F o):dN P F f (λr r'=>r'=f r∧F.A r=true∧Sh.lk r=false) (newObj o) (newObj (ro f o)):=.new ho λ_ h hl=>.pure ⟨rfl,h,hl⟩
theorem EY {r n:Nat} {x:Option Nat} (h:Sh.lk r=false):ra f ⟨r,n,x⟩=⟨f r,n,x⟩:=by unfold ra;simp [Sh.Zo _ h]
theorem kV (r:Nat) (hA:F.A r=true):dN P F f (λo o'=>o'=ro f o∧oS F o∧isCells o=false) (getObj r) (getObj (f r)):=.getObj hA λ_ h1 h2 _=>.pure ⟨rfl,h1,h2⟩
theorem MX (r:Nat) (hA:F.A r=true):dN P F f (λo o'=>o'=ro f o∧oS F o∧isCells o=false∧Sh.lk r=false) (getObj r) (getObj (f r)):=.getObj hA λ_ h1 h2 h3=>.pure ⟨rfl,h1,h2,h3⟩
theorem rY (r:Nat) (hA:F.A r=true) {o:Obj} (ho:oS F o) (hc:isCells o=false):dN P F f Eq (setObj r o) (setObj (f r) (ro f o)):=.setObj hA ho hc (.pure rfl)
theorem oq (q:Question):dN P F f Eq (choose q) (choose q):=.choose λ_=>.pure rfl
section
variable {P Q:Program}
theorem Sd (P:Program) (q:FuncId) (c:Code) (g:FuncId):(P.stub q c).funcs[g]?=(P.funcs[g]?).map λfn=>if g=q then { fn with body:=some c } else fn:=by
 show (P.funcs.modify q _)[g]?=_
 rw [bB]
 by_cases e:q=g
 ·subst e;simp
 ·rw [aa e];cases P.funcs[g]? with
  |none=>rfl
  |some fn=>
   show some fn=some (if g=q then _ else fn);rw [aa λh:g=q=>e h.symm]
theorem Alike.get (hQ:Alike P Q) (g:FuncId):∃h:Func->Func,Q.funcs[g]?=(P.funcs[g]?).map h∧∀fn,∃b,h fn= { fn with body:=b }∧(fn.body.isSome=true->b.isSome=true):=by
 rcases hQ with rfl|⟨q,c,_,_,_,_,rfl⟩
 ·exact ⟨id,by simp, λfn=>⟨fn.body,rfl,id⟩⟩
 ·refine ⟨_,Sd P q c g, λfn=>?_⟩;split
  ·exact ⟨_,rfl, λ_=>rfl⟩
  ·exact ⟨fn.body,rfl,id⟩
theorem Alike.underlying (h:Alike P Q) (t:TypeId):Q.underlying t=P.underlying t:=by rcases h with rfl|⟨_,_,_,_,_,_,rfl⟩<;>rfl
theorem Alike.info (h:Alike P Q) (t:TypeId):Q.info? t=P.info? t:=by rcases h with rfl|⟨_,_,_,_,_,_,rfl⟩<;>rfl
theorem Alike.cellsOf (h:Alike P Q) (t:TypeId):Q.cellsOf t=P.cellsOf t:=by rcases h with rfl|⟨_,_,_,_,_,_,rfl⟩<;>rfl
theorem Alike.bytesOf (h:Alike P Q) (t:TypeId):Q.bytesOf t=P.bytesOf t:=by rcases h with rfl|⟨_,_,_,_,_,_,rfl⟩<;>rfl
theorem Alike.depth (h:Alike P Q):Q.depth=P.depth:=by rcases h with rfl|⟨_,_,_,_,_,_,rfl⟩<;>rfl
theorem Alike.globals (h:Alike P Q):Q.globals=P.globals:=by rcases h with rfl|⟨_,_,_,_,_,_,rfl⟩<;>rfl
theorem Alike.underlyingId (h:Alike P Q) (t:TypeId):Q.underlyingId t=P.underlyingId t:=by rcases h with rfl|⟨_,_,_,_,_,_,rfl⟩<;>rfl
theorem Alike.cutTypes (h:Alike P Q):Q.cutTypes=P.cutTypes:=by rcases h with rfl|⟨_,_,_,_,_,_,rfl⟩<;>rfl
theorem Alike.tags (h:Alike P Q):∀n t u,Q.alikeButTags n t u=P.alikeButTags n t u
 |0,_,_=>rfl
 |n+1,t,u=>by
  unfold Go.Program.alikeButTags;simp only [h.underlying,h.info,h.underlyingId,Alike.tags h n]
theorem Alike.stoodInHeld (h:Alike P Q) (t:TypeId):Q.stoodInHeld t=P.stoodInHeld t:=by
 unfold Go.Program.stoodInHeld Go.Program.stoodInAs;simp only [h.underlying,h.info,h.underlyingId,h.depth,h.cutTypes,h.tags]
theorem Alike.byteOfCell (h:Alike P Q):∀d t off,Go.byteOfCell Q d t off=Go.byteOfCell P d t off
 |0,_,_=>rfl
 |d+1,t,off=>by
  unfold Go.byteOfCell;simp only [h.underlying,h.cellsOf,h.bytesOf,Alike.byteOfCell h d]
theorem Alike.cellOfByte (h:Alike P Q):∀d t b,Go.cellOfByte Q d t b=Go.cellOfByte P d t b
 |0,_,_=>rfl
 |d+1,t,b=>by
  unfold Go.cellOfByte;simp only [h.underlying,h.cellsOf,h.bytesOf,Alike.cellOfByte h d]
theorem Alike.cellAtBytes (h:Alike P Q) (d:Nat) (e:TypeId) (n o:Nat) (b:Int):Go.cellAtBytes Q d e n o b=Go.cellAtBytes P d e n o b:=by
 unfold Go.cellAtBytes;simp only [h.cellsOf,h.bytesOf,h.byteOfCell,h.cellOfByte]
theorem Alike.eqGuardType (h:Alike P Q):∀d t,Q.eqGuardType d t=P.eqGuardType d t
 |0,_=>rfl
 |d+1,t=>by
  unfold Go.Program.eqGuardType;simp only [h.underlying,Alike.eqGuardType h d]
end
theorem dN.wF {R:α->β->Prop} {k:Program->Sem α} {k':Program->Sem β} (h:dN P F f R (k P) (k' P)) (e:∀Q,Alike P Q->k' Q=k' P:=by rintro _ (rfl|⟨_,_,_,_,_,_,rfl⟩)<;>rfl):dN P F f R (Go.program >>=k) (Go.program >>=k'):=.program e h
theorem Qb:dN P F f Eq (mark .noRoom) (mark .noRoom):=.noRoom (.pure rfl)
theorem DW (t:TypeId):dN P F f (λa b=>a=b∧P.info? t=some a) (typeInfo t) (typeInfo t):=by
 unfold typeInfo;refine .wF ?_
 split
 ·exact .ret ⟨rfl,by assumption⟩
 ·exact gU _ _
theorem kF (t:TypeId):dN P F f Eq (typeInfo t) (typeInfo t):=(DW t).mono λ_ _ h=>h.1
theorem eB (t:TypeId):dN P F f Eq (underlying t) (underlying t):=by
 unfold underlying;refine .wF ?_
 split
 ·exact .ret rfl
 ·exact gU _ _
theorem jq (t:TypeId):dN P F f Eq (Go.sizeOf t) (Go.sizeOf t):=by
 unfold Go.sizeOf;exact (kF t).dY λ_=>.ret rfl
theorem KG (t:TypeId):dN P F f Eq (isAgg t) (isAgg t):=by
 unfold isAgg;refine (eB t).dY λd=>?_
 split<;>exact .ret rfl
theorem Wt (hz:jD P=true) {t:TypeId} {i:TypeInfo} {v:Value} (h:P.info? t=some i) (hv:i.zero=some v):rv f v=v∧vs F v=true:=by
 refine CS (MW (λt i v h hv=>?_) t i v h hv);have hm:i∈P.types:=bg h;have :=aV.1 hz i hm
 rwa [hv] at this
theorem ni (hz:jD P=true) (t:TypeId):dN P F f (λv v'=>v'=v∧rv f v=v∧vs F v=true) (zeroValue t) (zeroValue t):=by
 unfold zeroValue;refine (DW t).bind ?_
 rintro i _ ⟨rfl,hi⟩;split
 ·exact .ret ⟨rfl,Wt hz hi (by assumption)⟩
 ·exact yQ (by simp) _
theorem EZ (hz:jD P=true) (t:TypeId):dN P F f (VR F f) (zeroValue t) (zeroValue t):=(ni hz t).mono λ_ _ h=>⟨h.1.trans h.2.1.symm,h.2.2⟩
theorem add_block' (a:Addr) (n:Nat):(a.add n).block=a.block:=by unfold Addr.add;split<;>rfl
theorem wG (a:Addr) (hA:F.A a.block=true):∀(n i:Nat) (acc:Array Value),VS F acc->dN P F f (kZ F f) (loadCellsFrom a i n acc) (loadCellsFrom (ra f a) i n (acc.map (rv f)))
 |0,_,_,h=>.ret ⟨rfl,h⟩
 |n+1,i,acc,h=>by
  unfold loadCellsFrom;refine (dN.bind (by rw [<-CQ];exact OH _ (by rw [add_block'];exact hA)) ?_);rintro v _ ⟨rfl,hv⟩;rw [<-Array.map_push]
  exact wG a hA n (i+1) _ λx hx=>by
   rcases Array.mem_push.1 hx with hx|rfl
   ·exact h x hx
   ·exact hv
theorem BH (a:Addr) (hA:F.A a.block=true) (n:Nat):dN P F f (kZ F f) (loadCells a n) (loadCells (ra f a) n):=by
 have :=wG (P:=P) (F:=F) (f:=f) a hA n 0 #[] (by intro x hx;simp at hx);simpa [loadCells] using this
theorem sH (a:Addr) (hA:F.A a.block=true):∀(l:List Value) (i:Nat),(∀v∈l,vs F v=true)->dN P F f Eq (storeCells a l i) (storeCells (ra f a) (l.map (rv f)) i)
 | [],_,_=>.ret rfl
 |v::l,i,h=>by
  simp only [aC];unfold storeCells;refine dN.dY (by rw [<-CQ];exact Sc _ (by rw [add_block'];exact hA) (h v (by simp))) λ_=>?_
  exact sH a hA l (i+1) λx hx=>h x (by simp [hx])
theorem E5 (t:TypeId) (a:Addr) (hA:F.A a.block=true):dN P F f (VR F f) (loadVar t a) (loadVar t (ra f a)):=by
 unfold loadVar;refine (KG t).dY λb=>?_
 cases b
 ·simpa using OH a hA
 ·simp only [if_true];refine (jq t).dY λn=>?_
  refine (BH a hA n).bind ?_
  rintro c _ ⟨rfl,hc⟩;exact .ret ⟨by simp,rV.2 hc⟩
theorem KH (t:TypeId) (a:Addr) (hA:F.A a.block=true) {v:Value} (hv:vs F v=true):dN P F f Eq (storeVar t a v) (storeVar t (ra f a) (rv f v)):=by
 unfold storeVar;refine (jq t).dY λn=>?_
 rw [wB,Array.size_map,Array.toList_map];split
 ·exact (gU (R:=Eq) _ _).dY λ_=>sH a hA _ _ λx hx=>VS.cells hv x (by simpa using hx)
 ·exact sH a hA _ _ λx hx=>VS.cells hv x (by simpa using hx)
theorem wH (e:TypeId) {c:Array Value} (hc:VS F c):dN P F f (AR F f) (newRow e c) (newRow e (c.map (rv f))):=by
 unfold newRow;refine dN.bind (um (o:=.cells c e) hc) ?_
 rintro r _ ⟨rfl,hr,hl⟩;exact .ret ⟨(EY hl).symm,hr⟩
theorem Iu (t:TypeId) {v:Value} (hv:vs F v=true):dN P F f (AR F f) (newVar t v) (newVar t (rv f v)):=by
 unfold newVar;rw [wB];exact wH t (VS.cells hv)
end
end
end Par
namespace Par
open Go Go.RowKit
section
def eP (w:World) (v:Value):Prop:=∀g,v.ownBlock=some g->∃cur e,w.heap[g]?=some (.cells cur e)∧∀x∈cur,fA x=true
theorem eP.nil (w:World):eP w (.slice none 0 0):= λg h=>by cases h
theorem eP.keep {w w':World} {v:Value} (h:eP w v) (hk:∀g,v.ownBlock=some g->w'.heap[g]?=w.heap[g]?):eP w' v:= λg hg=>by
 obtain ⟨c,e,h1,h2⟩:=h g hg;exact ⟨c,e,(hk g hg).trans h1,h2⟩
theorem eP.alloc {w:World} {v:Value} (h:eP w v) (o:Obj):eP (w.alloc o) v:= λg hg=>by
 obtain ⟨c,e,h1,h2⟩:=h g hg;exact ⟨c,e,(Below.heap_alloc _ _ _ (aI.1 h1).1).trans h1,h2⟩
theorem eP.setCell {w:World} {g n cap j:Nat} {v:Value} (h:eP w (.slice (some ⟨g,0,none⟩) n cap)) (hv:fA v=true):eP (w.setCell ⟨g,j,none⟩ v) (.slice (some ⟨g,0,none⟩) n cap):= λg' hg=>by
 have e:g=g':=by simpa [Value.ownBlock] using hg
 subst e;obtain ⟨c,e,h1,h2⟩:=h g rfl;refine ⟨c.setIfInBounds j v,e,heap_setCell_same w g j c e v h1, λx hx=>?_⟩
 ·rcases bH hx with hx|rfl
  ·exact h2 x hx
  ·exact hv
section
variable {P:Program} {w:World}
theorem rZ (base:Nat) (t ty e:TypeId) (i:TypeInfo) (z:Value) (size bytes:Nat) (ht:P.underlying t=some (.slice e)) (hi:P.info? e=some i) (hz:i.zero=some z)
 (hsize:i.size=size) (hby:i.bytes=bytes) (hzs:z.cells.size=size) (hsz:0<size)
 (v:Value) (n:Nat) (xs:List Value) (hown:w.ownsRow base e size v n xs)
 (a:Addr) (m c:Nat) (news:List Value) (hl:news.length=m*size) (hnews:∀j u,news[j]?=some u->w.cell? (a.add j)=some u) (h1:∀u∈news,u.oneCell'=true)
 (h63:n+m<=maxLen) (hbytes:(n+m)*bytes<=140737488355328) (hbase:base<=w.heap.size)
 (hpv:eP w v) (hpx:∀u∈news,fA u=true) (hpz:∀u∈z.cells,fA u=true) {v':Value} {w':World}
 (hr:(Builtin.append_ #[t,t] ty #[v,.slice (some a) m c]).run P w= .ok v' w'):eP w' v':=by
 subst hsize;subst hby;have hsmall:n+m<=9223372036854775807:=by simp only [maxLen] at h63;omega
 have zc:∀k,∀x∈Builtin.zeroCells z.cells k,fA x=true:=by
  intro k x hx;unfold Builtin.zeroCells at hx;simp at hx;obtain ⟨q,_,rfl⟩:=hx;have hlt:q%z.cells.size<z.cells.size:=Nat.mod_lt _ (by omega);rw [getElem!_pos z.cells _ hlt];exact hpz _ (Array.getElem_mem hlt)
 rcases hown.2 with ⟨rfl,rfl⟩|⟨g,cap,cur,rfl,hbg,hg,hnc,hcm,hcs,htake⟩
 ·have hx:xs= []:=List.eq_nil_of_length_eq_zero (by simpa using hown.1);subst hx
  by_cases hm:m=0
  ·subst hm;have hn:news= []:=List.eq_nil_of_length_eq_zero (by simpa using hl);subst hn
   have :(Builtin.append_ #[t,t] ty #[.slice none 0 0,.slice (some a) 0 c]).run P w= .ok (.slice none 0 0) w:=by
    simp [Builtin.append_,run_underlying ht,Go.sizeOf,Go.typeInfo,hi,Builtin.lenOf,Builtin.firstCells,loadCells,loadCellsFrom]
   rw [this] at hr;cases hr;exact .nil _
  ·have hr2:=run_append_nil (P:=P) w t ty e i z ht hi hz a m c news hl hnews (by omega) (by omega) (by have hb:=hbytes;simp only [Nat.zero_add] at hb;omega);rw [hr2] at hr;cases hr;intro g hg;have e1:w.heap.size=g:=by simpa [Value.ownBlock] using hg
   subst e1;refine ⟨_,_,heap_alloc_new w.drew _, λx hx=>?_⟩;simp only [Array.mem_append,aB] at hx;rcases hx with hx|hx
   ·exact hpx x hx
   ·exact zc _ x hx
 ·by_cases hroom:n+m<=cap
  ·have hfit:n*i.size+news.length<=cur.size:=by rw [hl,hcs, <-Nat.add_mul];exact Nat.mul_le_mul_right _ hroom
   have hr2:=run_append_room (P:=P) w t ty e i ht hi g n cap cur hg a m c news hl hnews h1 hroom hfit;rw [hr2] at hr;cases hr;intro g' hg';have e1:g=g':=by simpa [Value.ownBlock] using hg'
   subst e1;obtain ⟨c',e',q1,q2⟩:=hpv g rfl;rw [hg] at q1;cases q1;refine ⟨_,_,setRow_heap w g cur _ e _ hg, λx hx=>?_⟩;simp only [aB,List.mem_append] at hx;rcases hx with (hx|hx)|hx
   ·exact q2 x (by have :=bF hx;simpa using this)
   ·exact hpx x hx
   ·exact q2 x (by have :=List.mem_of_mem_drop hx;simpa using this)
  ·have holds:∀j u,xs[j]?=some u->w.cell? ((⟨g,0,none⟩:Addr).add j)=some u:=hown.cells (g:=g) rfl
   have hr2:=run_append_grow (P:=P) w t ty e i z ht hi hz ⟨g,0,none⟩ n cap xs hown.1 holds a m c news hl hnews (by omega) (by omega) (growslice_fits (by omega) hbytes);rw [hr2] at hr;cases hr;intro g' hg';have e1:w.heap.size=g':=by simpa [Value.ownBlock] using hg'
   subst e1;obtain ⟨c',e',q1,q2⟩:=hpv g rfl;rw [hg] at q1;cases q1;refine ⟨_,_,heap_alloc_new w.drew _, λx hx=>?_⟩;simp only [Array.mem_append,aB] at hx;rcases hx with (hx|hx)|hx
   ·rw [<-htake] at hx;exact q2 x (by have :=bF hx;simpa using this)
   ·exact hpx x hx
   ·exact zc _ x hx
theorem gG {ops:Array Oper} {rest:List Oper} {o:Oper} {a:Act} {Q:Exit->Act->World->Prop} (hgd:o.guard=none) (s x:Operand) (t:TypeId)
 (ho:o.op= .call { callee:=.builtin .append,args:= #[s,x],argTypes:= #[t,t] })
 (base:Nat) (e:TypeId) (i:TypeInfo) (z:Value) (size bytes:Nat) (ht:P.underlying t=some (.slice e)) (hi:P.info? e=some i) (hz:i.zero=some z)
 (hsize:i.size=size) (hby:i.bytes=bytes) (hzs:z.cells.size=size) (hsz:0<size)
 (v:Value) (n:Nat) (xs:List Value) (hs:a.eval s=v) (hown:w.ownsRow base e size v n xs)
 (ad:Addr) (m c:Nat) (news:List Value) (hx:a.eval x= .slice (some ad) m c) (hl:news.length=m*size) (hnews:∀j u,news[j]?=some u->w.cell? (ad.add j)=some u) (h1:∀u∈news,u.oneCell'=true)
 (h63:n+m<=maxLen) (hbytes:(n+m)*bytes<=140737488355328) (hbase:base<=w.heap.size) (hpv:eP w v) (hpx:∀u∈news,fA u=true) (hpz:∀u∈z.cells,fA u=true)
 (h:∀v' w',w'.ownsRow base e size v' (n+m) (xs++news)->w.grownBy w' v.ownBlock->(v'= .slice none 0 0↔v= .slice none 0 0∧m=0)->eP w' v'->wpList P ops Q rest (a.put o.dst v') w'):wpList P ops Q (o::rest) a w:=
 wpList_plain hgd λK hK=>by
  obtain ⟨v',w',hr,h2,h3,h4⟩:=run_append_own (P:=P) w base t o.type e i z size bytes ht hi hz hsize hby hzs hsz v n xs hown ad m c news hl hnews h1 h63 hbytes hbase;have hp:=rZ (P:=P) (w:=w) base t o.type e i z size bytes ht hi hz hsize hby hzs hsz v n xs hown ad m c news hl hnews h1 h63 hbytes hbase hpv hpx hpz hr;unfold Oper.wp execOp;simp only [ho,resolve,invoke,builtin,Sem.run_bind,Sem.run_pure,Result.andThen_ok,List.map_toArray,aC,List.map_nil,hs,hx,hr];exact hK _ _ (h v' w' h2 h3 h4 hp)
theorem BI {o:Oper} {a:Act} {K:Act->World->Prop} {Q:Exit->Act->World->Prop} (s x:Operand) (t:TypeId)
 (ho:o.op= .call { callee:=.builtin .append,args:= #[s,x],argTypes:= #[t,t] })
 (base:Nat) (e:TypeId) (i:TypeInfo) (z:Value) (size bytes:Nat) (ht:P.underlying t=some (.slice e)) (hi:P.info? e=some i) (hz:i.zero=some z)
 (hsize:i.size=size) (hby:i.bytes=bytes) (hzs:z.cells.size=size) (hsz:0<size)
 (v:Value) (n:Nat) (xs:List Value) (hs:a.eval s=v) (hown:w.ownsRow base e size v n xs)
 (ad:Addr) (m c:Nat) (news:List Value) (hx:a.eval x= .slice (some ad) m c) (hl:news.length=m*size) (hnews:∀j u,news[j]?=some u->w.cell? (ad.add j)=some u) (h1:∀u∈news,u.oneCell'=true)
 (hm:0<m) (h63:n+m<=maxLen) (hbytes:(n+m)*bytes<=140737488355328) (hbase:base<=w.heap.size) (H:Nat) (hH:w.heap.size=H) (hpv:eP w v) (hpx:∀u∈news,fA u=true) (hpz:∀u∈z.cells,fA u=true)
 (h:∀g cap w',w'.ownsRow base e size (.slice (some ⟨g,0,none⟩) (n+m) cap) (n+m) (xs++news)->w.grownBy w' v.ownBlock->(v.ownBlock=some g∨g=H)->g<w'.heap.size->eP w' (.slice (some ⟨g,0,none⟩) (n+m) cap)->K (a.put o.dst (.slice (some ⟨g,0,none⟩) (n+m) cap)) w'):
 Oper.wp P o a w K Q:=by
 obtain ⟨v',w',hr,h2,h3,_,h5⟩:=run_append_own_at (P:=P) w base t o.type e i z size bytes ht hi hz hsize hby hzs hsz v n xs hown ad m c news hl hnews h1 h63 hbytes hbase;have hp:=rZ (P:=P) (w:=w) base t o.type e i z size bytes ht hi hz hsize hby hzs hsz v n xs hown ad m c news hl hnews h1 h63 hbytes hbase hpv hpx hpz hr;unfold Oper.wp execOp;simp only [ho,resolve,invoke,builtin,Sem.run_bind,Sem.run_pure,Result.andThen_ok,List.map_toArray,aC,List.map_nil,hs,hx,hr];rcases h2.2 with ⟨h0,_⟩|⟨g,cap,cur,rfl,hbg,hg,_⟩
 ·omega
 ·exact h g cap w' h2 h3 (by rcases h5 with h5|h5
                             ·exact .inl (h5.symm.trans rfl)
                             ·exact .inr (by have :=h5;simp [Value.ownBlock] at this;omega)) (aI.1 hg).1 hp
theorem oV {ops:Array Oper} {o:Oper} {a:Act} {K:Act->World->Prop} {Q:Exit->Act->World->Prop} {E:Prop} (hgd:o.guard=none) (s x:Operand) (t:TypeId)
 (ho:o.op= .call { callee:=.builtin .append,args:= #[s,x],argTypes:= #[t,t] })
 (base:Nat) (e:TypeId) (i:TypeInfo) (z:Value) (size bytes:Nat) (ht:P.underlying t=some (.slice e)) (hi:P.info? e=some i) (hz:i.zero=some z)
 (hsize:i.size=size) (hby:i.bytes=bytes) (hzs:z.cells.size=size) (hsz:0<size)
 (v:Value) (n:Nat) (xs:List Value) (hs:a.eval s=v) (hown:w.ownsRow base e size v n xs)
 (ad:Addr) (m c:Nat) (news:List Value) (hx:a.eval x= .slice (some ad) m c) (hl:news.length=m*size) (hnews:∀j u,news[j]?=some u->w.cell? (ad.add j)=some u) (h1:∀u∈news,u.oneCell'=true)
 (hm:0<m) (h63:n+m<=maxLen) (hbytes:(n+m)*bytes<=140737488355328) (hbase:base<=w.heap.size) (H:Nat) (hH:w.heap.size=H) (hpv:eP w v) (hpx:∀u∈news,fA u=true) (hpz:∀u∈z.cells,fA u=true)
 (h:∀g cap w',w'.ownsRow base e size (.slice (some ⟨g,0,none⟩) (n+m) cap) (n+m) (xs++news)->w.grownBy w' v.ownBlock->(v.ownBlock=some g∨g=H)->g<w'.heap.size->eP w' (.slice (some ⟨g,0,none⟩) (n+m) cap)->K (a.put o.dst (.slice (some ⟨g,0,none⟩) (n+m) cap)) w'):
 if Region.wanted o (yielded ops a.tmps)=true then Oper.wp P o a w K Q else E:=by
 have hw:Region.wanted o (yielded ops a.tmps)=true:=by simp [Region.wanted,hgd]
 rw [aj hw];exact BI s x t ho base e i z size bytes ht hi hz hsize hby hzs hsz v n xs hs hown ad m c news hx hl hnews h1 hm h63 hbytes hbase H hH hpv hpx hpz h
theorem CU {ops:Array Oper} {rest:List Oper} {o:Oper} {a:Act} {Q:Exit->Act->World->Prop} (hgd:o.guard=none) (s x:Operand) (t:TypeId)
 (ho:o.op= .call { callee:=.builtin .append,args:= #[s,x],argTypes:= #[t,t] })
 (base:Nat) (e:TypeId) (i:TypeInfo) (z:Value) (size bytes:Nat) (ht:P.underlying t=some (.slice e)) (hi:P.info? e=some i) (hz:i.zero=some z)
 (hsize:i.size=size) (hby:i.bytes=bytes) (hzs:z.cells.size=size) (hsz:0<size)
 (v:Value) (n:Nat) (xs:List Value) (hs:a.eval s=v) (hown:w.ownsRow base e size v n xs)
 (ad:Addr) (m c:Nat) (news:List Value) (hx:a.eval x= .slice (some ad) m c) (hl:news.length=m*size) (hnews:∀j u,news[j]?=some u->w.cell? (ad.add j)=some u) (h1:∀u∈news,u.oneCell'=true)
 (hm:0<m) (h63:n+m<=maxLen) (hbytes:(n+m)*bytes<=140737488355328) (hbase:base<=w.heap.size) (H:Nat) (hH:w.heap.size=H) (hpv:eP w v) (hpx:∀u∈news,fA u=true) (hpz:∀u∈z.cells,fA u=true)
 (h:∀g cap w',w'.ownsRow base e size (.slice (some ⟨g,0,none⟩) (n+m) cap) (n+m) (xs++news)->w.grownBy w' v.ownBlock->(v.ownBlock=some g∨g=H)->g<w'.heap.size->eP w' (.slice (some ⟨g,0,none⟩) (n+m) cap)->wpList P ops Q rest (a.put o.dst (.slice (some ⟨g,0,none⟩) (n+m) cap)) w'):wpList P ops Q (o::rest) a w:=
 wpList_plain hgd λ_ hK=>BI s x t ho base e i z size bytes ht hi hz hsize hby hzs hsz v n xs hs hown ad m c news hx hl hnews h1 hm h63 hbytes hbase H hH hpv hpx hpz λg cap w' a1 a2 a3 a4 a5=>hK _ _ (h g cap w' a1 a2 a3 a4 a5)
end
end
end Par
