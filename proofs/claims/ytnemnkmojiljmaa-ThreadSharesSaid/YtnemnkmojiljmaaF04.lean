/- Part 4. -/
import Derived.Laws.AppendOwn
import Derived.Maps.AppendAt
import Derived.Laws.OwnMore
import Derived.Below
import Derived.Test.YtnemnkmojiljmaaF01
set_option maxRecDepth 100000
set_option maxHeartbeats 8000000
set_option linter.all false
section
namespace Par
open Go
variable [Sh]
section
variable {P:Program} {F:Fit} {f:Nat->Nat} {α β:Type} {R:α->β->Prop}
theorem Ag.defs {w W:World} (h:Ag F f w W):DD F w:=by
 intro r ds hA hr;rcases h.wr.blk r _ hA hr with ⟨_,hS,_⟩|⟨_,c,e,fr,fr',h,_⟩|⟨_,c,fr,C,e',fr',h,_⟩
 ·exact hS
 ·cases h
 ·cases h
def Bq (F:Fit) (f:Nat->Nat) (w1:World) (es es' x y:Array Event):Prop:=∃u:Array Event,x=es++u∧y=es'++u.map (rev f)∧∀e∈u,Xu F w1 e
def Out (F:Fit) (w w1:World):Prop:=∃b,w.heap.size<=b∧b<w1.heap.size∧F.A b=false
theorem Out.mono {F:Fit} {w w0 w1:World} (h:Out F w0 w1) (hs:w.heap.size<=w0.heap.size):Out F w w1:=let ⟨b,h1,h2,h3⟩:=h;⟨b,aC hs h1,h2,h3⟩
def uq (F:Fit) (f:Nat->Nat) {α β:Type} (R:α->β->Prop) (w W:World) (es es':Array Event) (x:Result α×Array Event) (y:Result β×Array Event):Prop:=
 Out F w (rw' x.1)∨match x.1 with
 | .ok a w1=>∃b W1,y.1= .ok b W1∧R a b∧Mv F f w W w1 W1∧Bq F f w1 es es' x.2 y.2
 | .halt h w1=>Jo h∧DD F w1
theorem Bq.Dl {w0 W0 w1 W1:World} {es es' x y u0:Array Event} (h0:∀e∈u0,Xu F w0 e) (hm:Mv F f w0 W0 w1 W1) (h:Bq F f w1 (es++u0) (es'++u0.map (rev f)) x y):Bq F f w1 es es' x y:=by
 obtain ⟨u,rfl,rfl,hu⟩:=h;refine ⟨u0++u,by simp [Array.append_assoc],by simp [Array.append_assoc], λe he=>?_⟩;rcases Array.mem_append.1 he with he|he
 ·exact (h0 e he).mono hm
 ·exact hu e he
theorem uq.Dl {w W w0 W0:World} {es es' u0:Array Event} {x:Result α×Array Event} {y:Result β×Array Event} (ha:Ag F f w W) (hm:Mv F f w W w0 W0) (h0:∀e∈u0,Xu F w0 e)
 (h:uq F f R w0 W0 (es++u0) (es'++u0.map (rev f)) x y):uq F f R w W es es' x y:=by
 obtain ⟨x1,x2⟩:=x;cases x1 with
 |ok a w1=>
  rcases h with ho|⟨b,W1,h1,h2,h3,h4⟩
  ·obtain ⟨k,hk,_⟩:=hm.size;exact .inl (ho.mono (by omega))
  ·exact .inr ⟨b,W1,h1,h2,hm.trans ha h3,h4.Dl h0 h3⟩
 |halt k w1=>
  rcases h with ho|h
  ·obtain ⟨k,hk,_⟩:=hm.size;exact .inl (ho.mono (by omega))
  ·exact .inr h
theorem uq.xw {w W w0 W0:World} {es es':Array Event} {e:Event} {x:Result α×Array Event} {y:Result β×Array Event} (ha:Ag F f w W) (hm:Mv F f w W w0 W0) (h0:Xu F w0 e)
 (h:uq F f R w0 W0 (es.push e) (es'.push (rev f e)) x y):uq F f R w W es es' x y:=by
 refine uq.Dl (u0:= #[e]) ha hm (by simpa using h0) ?_
 rw [show es++ #[e]=es.push e from by simp,show es'++ #[e].map (rev f)=es'.push (rev f e) from by simp];exact h
theorem uq.DJ {w W w0 W0:World} {es es':Array Event} {x:Result α×Array Event} {y:Result β×Array Event} (ha:Ag F f w W) (hm:Mv F f w W w0 W0)
 (h:uq F f R w0 W0 es es' x y):uq F f R w W es es' x y:=by
 refine uq.Dl (u0:= #[]) ha hm (by simp) ?_
 rw [show es++ #[]=es from by simp,show es'++ #[].map (rev f)=es' from by simp];exact h
theorem Ag.setObj {w W:World} (hf:∀a b,Sh.lk a=false->f a=f b->a=b) (h:Ag F f w W) {r:Nat} {o x:Obj} (hA:F.A r=true) (hx:w.heap[r]?=some x) (FW:isCells x=false) (ho:oS F o) (hoc:isCells o=false):
 Mv F f w W { w with heap:=w.heap.setIfInBounds r o } { W with heap:=W.heap.setIfInBounds (f r) (ro f o) }:=by
 have hr:=(aa.1 hx).1;have hR:=h.wr.lt r hr hA;have hnl:∀y:Obj,isCells y=false->¬jw y:=by rintro y hy ⟨c,e,fr,rfl,_⟩;cases hy
 have hlk:Sh.lk r=false:=by
  rcases h.wr.blk _ _ hA hx with ⟨h1,_⟩|⟨h1,_⟩|⟨_,c,fr,C,e',fr',rfl,_⟩
  ·exact h1
  ·exact h1
  ·cases FW
 refine ⟨⟨⟨λb hb OV=>by simpa using h.wr.lt b (by simpa using hb) OV, λb y OV hy=>?_⟩,h.tape, λj=>by simpa using h.next j, λb hb=>h.Ji b (by simpa using hb)⟩,rfl,rfl,rfl,rfl,rfl,⟨0,rfl,rfl⟩,⟨0,by simp,by simp⟩, λb y hy=>?_, λa v hv=>⟨v,?_⟩, λB hB=>?_⟩
 ·by_cases e:r=b
  ·subst e;rw [Array.getElem?_setIfInBounds_self_of_lt hr] at hy;cases hy;refine .inl ⟨hlk,ho,hoc,?_⟩;simp only [];rw [Array.getElem?_setIfInBounds_self_of_lt hR]
  ·rw [Array.getElem?_setIfInBounds_ne e] at hy;simp only [];rw [Array.getElem?_setIfInBounds_ne (λx=>e (hf _ _ hlk x))];exact h.wr.blk b y OV hy
 ·by_cases e:r=b
  ·subst e;rw [hx] at hy;cases hy;exact ⟨o,by simp only [];rw [Array.getElem?_setIfInBounds_self_of_lt hr],iff_of_false (hnl _ hoc) (hnl _ FW),hoc.trans FW.symm, λhl=>absurd hl (hnl _ FW)⟩
  ·exact ⟨y,by simp only [];rw [Array.getElem?_setIfInBounds_ne e];exact hy,Iff.rfl,rfl, λ_=>rfl⟩
 ·unfold World.cell? at hv ⊢;simp only []
  by_cases e:r=a.block
  ·rw [<-e,hx] at hv;cases x<;>first |cases hv|cases FW
  ·rw [Array.getElem?_setIfInBounds_ne e];exact hv
 ·by_cases e:f r=B
  ·exact .inr ⟨r,x,hA,hx,e,hnl _ FW⟩
  ·exact .inl (by simp only [];rw [Array.getElem?_setIfInBounds_ne e])
omit [Sh] in
theorem xx (w:World) (c:Array Value) (e:TypeId):
 ({ w with heap:=w.heap.push (.cells c e (0,0)) }:World).freeze ⟨w.heap.size,c.size,none⟩ 1= { w with heap:=w.heap.push (.cells c e (c.size,c.size+1)) }:=by
 unfold World.freeze;simp only [Nat.one_ne_zero,if_false];congr 1;apply Array.ext
 ·simp
 ·intro i h1 h2;simp only [Array.size_modify,Array.size_push] at h1;rw [Array.getElem_modify]
  by_cases hi:i=w.heap.size
  ·subst hi;simp
  ·rw [if_neg (Ne.symm hi)];rw [Array.getElem_push_lt (by omega),Array.getElem_push_lt (by omega)]
theorem zY {o:Obj} (h:oS F o):o.isChan=false:=by
 cases o<;>first |rfl|exact h.elim
theorem Js (o:Obj):isCells (ro f o)=isCells o:=by cases o<;>rfl
omit [Sh] in
theorem vQ {γ:Type} {w:World} {r:Nat} {o:Obj} (k:Obj->Sem γ) (es:Array Event) (hr:w.heap[r]?=some o) (hc:isCells o=false):
 Sem.runT P (.getObj r k) w es=(k o).runT P w (es.push ⟨.obj r,false,o.isChan⟩):=by
 cases o<;>first |(cases hc;done)|(simp only [Sem.runT,hr])
omit [Sh] in
theorem rZ {γ:Type} {w:World} {r:Nat} {x:Obj} (o:Obj) (k:Sem γ) (es:Array Event) (hr:w.heap[r]?=some x) (hc:isCells x=false):
 Sem.runT P (.setObj r o k) w es=k.runT P { w with heap:=w.heap.setIfInBounds r o } (es.push ⟨.obj r,true,o.isChan⟩):=by
 cases x<;>first |(cases hc;done)|(simp only [Sem.runT,hr])
theorem bQ.DL {Q:Program} (hQ:Alike P Q) (hf:∀a b,Sh.lk a=false->f a=f b->a=b) {m:Sem α} {m':Sem β} (h:bQ P F f R m m'):
 ∀(w W:World) (es es':Array Event),Ag F f w W->uq F f R w W es es' (m.runT P w es) (m'.runT Q W es'):=by
 have ev0:∀(w:World) (es es':Array Event),Bq F f w es es' es es':= λw es es'=>⟨#[],by simp,by simp,by simp⟩
 induction h with
 |pure h=>intro w W es es' ha;exact .inr ⟨_,W,rfl,h,Mv.refl ha,ev0 ..⟩
 | @load a k k' hA h ih=>
   intro w W es es' ha;simp only [Sem.runT];cases hc:w.cell? a with
   |none=>
    obtain ⟨x,hx,hb⟩:=(ha.wr.noCell a hA "").2 P (Mode.plain==Mode.atomic);simp only [hx];exact .inr ⟨hb,ha.defs⟩
   |some v=>
    obtain ⟨h1,h2⟩:=ha.wr.cell hA hc;simp only [h1];exact uq.xw (e:=⟨.cell a,false,false⟩) ha (Mv.refl ha) ⟨rfl,hA,⟨v,hc⟩,by simp⟩ (ih v h2 w W _ _ ha)
 | @store a v k k' hA hv h ih=>
   intro w W es es' ha
   have hs:(∃c,v= .agg c∨v= .tuple c)∨((∀c,v≠ .agg c∧v≠ .tuple c)):=by
    cases v<;>first |(refine .inr λc=>⟨?_,?_⟩<;>(intro h;cases h;done))|exact .inl ⟨_,.inl rfl⟩|exact .inl ⟨_,.inr rfl⟩
   rcases hs with ⟨c,rfl|rfl⟩|hs
   ·simp only [Sem.runT];exact .inr ⟨trivial,ha.defs⟩
   ·simp only [Sem.runT];exact .inr ⟨trivial,ha.defs⟩
   ·have e1:∀(w:World) (es:Array Event),Sem.runT P (.store .plain a v k) w es=match w.cell? a with
     |some _=>if w.frozen? a then (.halt (.unsupported (.unsafePointer "a write to bytes that a string shares")) w,es) else k.runT P (w.setCell a v) (es.push ⟨.cell a,true,false⟩)
     |none=>match w.farStore P a v false with
      | .ok (w,touched)=>k.runT P w (es++touched.toArray.map (⟨.cell ·,true,false⟩))
      | .error h=>(.halt h w,es):=by
     intro w es;cases v<;>first |rfl|exact absurd rfl (hs _).1|exact absurd rfl (hs _).2
    have e2:∀(w:World) (es:Array Event),Sem.runT Q (.store .plain (ra f a) (rv f v) k') w es=match w.cell? (ra f a) with
     |some _=>if w.frozen? (ra f a) then (.halt (.unsupported (.unsafePointer "a write to bytes that a string shares")) w,es) else k'.runT Q (w.setCell (ra f a) (rv f v)) (es.push ⟨.cell (ra f a),true,false⟩)
     |none=>match w.farStore Q (ra f a) (rv f v) false with
      | .ok (w,touched)=>k'.runT Q w (es++touched.toArray.map (⟨.cell ·,true,false⟩))
      | .error h=>(.halt h w,es):=by
     intro w es;cases v<;>first |(simp only [lC,iG,uH,ql,eY,dm,dY,rq,vM,rD,mh,rW,jG];rfl)|exact absurd rfl (hs _).1|exact absurd rfl (hs _).2
    rw [e1,e2];cases hc:w.cell? a with
    |none=>
     obtain ⟨x,hx,hb⟩:=ha.wr.NB a hA P v false;simp only [hx];exact .inr ⟨hb,ha.defs⟩
    |some x=>
     obtain ⟨h1,_⟩:=ha.wr.cell hA hc;simp only [h1];cases hz:w.frozen? a with
     |true=>simp only [if_true];exact .inr ⟨trivial,ha.defs⟩
     |false=>
      rw [ha.wr.frozen hA hc hz];simp only [aS,if_false];obtain ⟨hm,o,ho,hl⟩:=ha.store hf hA hc hz hv;obtain ⟨o1,ho1,hl1,_⟩:=hm.lock _ o ho;exact uq.xw (e:=⟨.cell a,true,false⟩) ha hm ⟨rfl,hA,Ck hc, λ_=>⟨o1,ho1, λy=>hl (hl1.1 y)⟩⟩ (ih _ _ _ _ hm.ag)
 | @new o k k' ho h ih=>
   intro w W es es' ha;simp only [Sem.runT];have hn:f w.heap.size=W.heap.size:=by simpa using ha.next 0
   have hm:Mv F f w W { w with heap:=w.heap.push o } { W with heap:=W.heap.push (ro f o) }:=ha.new (by
    cases o with
    |cells c e fr=>exact .inr (.inl ⟨ha.Ji _ (aj _),c,e,fr,fr,rfl,ho,rfl, λi _ h1 h2=>⟨h1,h2⟩⟩)
    |_=>exact .inl ⟨ha.Ji _ (aj _),ho,rfl,rfl⟩)
   rw [<-hn];cases hA:F.A w.heap.size with
   |true=>exact uq.DJ ha hm (ih _ hA (ha.Ji _ (aj _)) _ _ _ _ hm.ag)
   |false=>
    have :=runT_size (P:=P) (k w.heap.size) { w with heap:=w.heap.push o } es;simp only [Array.size_push] at this;exact .inl ⟨w.heap.size,aj _,by omega,hA⟩
 | @qo c e k0 k0' k k' ho e1 e2 h ih=>
   intro w W es es' ha;have hn:f w.heap.size=W.heap.size:=by simpa using ha.next 0
   have hsh:∀(w:World) (c:Array Value),World.shape? { w with heap:=w.heap.push (.cells c e (0,0)) } w.heap.size=some (e,c.size):=by
    intro w c;simp [World.shape?]
   simp only [Sem.runT];have ae1:=hsh W (c.map (rv f));rw [Array.size_map] at ae1;rw [hsh w c,ae1,e1, <-hn,e2,hn];simp only [Sem.runT];have hfr:=xx W (c.map (rv f)) e;rw [Array.size_map] at hfr;rw [xx,hfr]
   have hm:Mv F f w W { w with heap:=w.heap.push (.cells c e (c.size,c.size+1)) } { W with heap:=W.heap.push (.cells (c.map (rv f)) e (c.size,c.size+1)) }:=
    ha.new (.inr (.inl ⟨ha.Ji _ (aj _),c,e,_,(c.size,c.size+1),rfl,ho,rfl, λi _ h1 h2=>⟨h1,h2⟩⟩))
   cases hA:F.A w.heap.size with
   |true=>
    have :=ih w.heap.size hA (ha.Ji _ (aj _)) _ _ es es' hm.ag;rw [hn] at this;exact uq.DJ ha hm this
   |false=>
    have :=runT_size (P:=P) (k w.heap.size) { w with heap:=w.heap.push (.cells c e (c.size,c.size+1)) } es;simp only [Array.size_push] at this;exact .inl ⟨w.heap.size,aj _,by omega,hA⟩
 | @shape r k k' hA h hl ih ihl=>
   intro w W es es' ha;simp only [Sem.runT]
   by_cases hk:∃c fr C e' fr',w.heap[r]?=some (.cells c Sh.bad fr)∧W.heap[f r]?=some (.cells C e' fr')∧Sh.lk r=true
   ·obtain ⟨c,fr,C,e',fr',h1,h2,h3⟩:=hk;have e1:w.shape? r=some (Sh.bad,c.size):=by unfold World.shape?;rw [h1]
    have e2:W.shape? (f r)=some (e',C.size):=by unfold World.shape?;rw [h2]
    rw [e1,e2];exact ihl h3 _ _ w W es es' ha
   have :W.shape? (f r)=w.shape? r:=by
    unfold World.shape?;cases hr:w.heap[r]? with
    |none=>
     have h1:w.heap.size<=r:=by
      rcases aO r w.heap.size with h|h
      ·simp [h] at hr
      ·exact h
     have h2:=ha.next (r - w.heap.size);rw [show w.heap.size+(r - w.heap.size)=r from by omega] at h2;have :W.heap[f r]?=none:=by simp;omega
     rw [this]
    |some o=>
     rcases ha.wr.blk r o hA hr with ⟨_,_,hc,hO⟩|⟨_,c,e,fr,fr',rfl,_,hO,_⟩|⟨h3,c,fr,C,e',fr',rfl,_,_,h2,_⟩
     ·rw [hO];cases o<;>first |rfl|cases hc
     ·rw [hO];simp
     ·exact absurd ⟨c,fr,C,e',fr',hr,h2,h3⟩ hk
   rw [this];refine ih _ (λh3=>?_) w W es es' ha;unfold World.shape?;cases hr:w.heap[r]? with
   |none=>rfl
   |some o=>
    rcases ha.wr.blk r o hA hr with ⟨h4,_⟩|⟨h4,_⟩|⟨_,c,fr,C,e',fr',rfl,_,_,h2,_⟩
    ·rw [h4] at h3;cases h3
    ·rw [h4] at h3;cases h3
    ·exact absurd ⟨c,fr,C,e',fr',hr,h2,h3⟩ hk
 | @getObj r k k' hA h ih=>
   intro w W es es' ha;cases hr:w.heap[r]? with
   |none=>simp only [Sem.runT,hr];exact .inr ⟨trivial,ha.defs⟩
   |some o=>
    by_cases hc:isCells o=true
    ·cases o<;>first |(simp only [Sem.runT,hr];exact .inr ⟨trivial,ha.defs⟩)|cases hc
    ·have hc':isCells o=false:=by simpa using hc
     rcases ha.wr.blk r o hA hr with ⟨hlk,hS,_,hO⟩|⟨_,c,e,fr,fr',rfl,_⟩|⟨_,c,fr,C,e',fr',rfl,_⟩
     ·have hch:=zY hS;rw [vQ k es hr hc',vQ k' es' hO ((Js o).trans hc'),Ga,hch];exact uq.xw (e:=⟨.obj r,false,false⟩) ha (Mv.refl ha) ⟨rfl,hA,o,hr,hc'⟩ (ih o hS hc' hlk w W _ _ ha)
     ·cases hc'
     ·cases hc'
 | @DF r k m' hA hl=>
   intro w W es es' ha;rcases ha.wr.Ih hA hl with hr|⟨c,fr,hr⟩<;>(simp only [Sem.runT,hr];exact .inr ⟨trivial,ha.defs⟩)
 | @setObj r o k k' hA ho hc h ih=>
   intro w W es es' ha;cases hr:w.heap[r]? with
   |none=>simp only [Sem.runT,hr];exact .inr ⟨trivial,ha.defs⟩
   |some x=>
    by_cases FW:isCells x=true
    ·cases x<;>first |(simp only [Sem.runT,hr];exact .inr ⟨trivial,ha.defs⟩)|cases FW
    ·have FX:isCells x=false:=by simpa using FW
     rcases ha.wr.blk r x hA hr with ⟨_,hS,_,hO⟩|⟨_,c,e,fr,fr',rfl,_⟩|⟨_,c,fr,C,e',fr',rfl,_⟩
     ·have hch:=zY ho;rw [rZ o k es hr FX,rZ (ro f o) k' es' hO ((Js x).trans FX),Ga,hch];have hm:=ha.setObj hf hA hr FX ho hc;obtain ⟨o1,ho1,_,hc1,_⟩:=hm.lock r x hr;exact uq.xw (e:=⟨.obj r,true,false⟩) ha hm ⟨rfl,hA,o1,ho1,hc1.trans FX⟩ (ih _ _ _ _ hm.ag)
     ·cases FX
     ·cases FX
 | @choose q k k' h ih=>
   intro w W es es' ha;simp only [Sem.runT]
   by_cases hq:q.forced=true
   ·simp only [hq,if_true];exact ih 0 w W es es' ha
   ·simp only [hq,if_false,aS];have ht:=ha.tape 0 q;simp only [Nat.add_zero] at ht;rw [ht]
    have hm:Mv F f w W { w with drawn:=w.drawn+1 } { W with drawn:=W.drawn+1 }:=
     ⟨⟨⟨ha.wr.lt,ha.wr.blk⟩, λj q'=>by have :=ha.tape (1+j) q';simpa [Nat.add_assoc] using this,ha.next,ha.Ji⟩,rfl,rfl,rfl,rfl,rfl,⟨1,rfl,rfl⟩,⟨0,rfl,rfl⟩, λ_ o ho=>⟨o,ho,Iff.rfl,rfl, λ_=>rfl⟩, λ_ v hv=>⟨v,hv⟩, λ_ _=>.inl rfl⟩
    exact uq.DJ ha hm (ih _ _ _ es es' hm.ag)
 |program e h ih=>intro w W es es' ha;simp only [Sem.runT];rw [e Q hQ];exact ih w W es es' ha
 |noRoom h ih=>
  intro w W es es' ha;simp only [Sem.runT];exact uq.xw (e:=⟨.mark .noRoom,false,true⟩) ha (Mv.refl ha) ⟨rfl,rfl⟩ (ih w W _ _ ha)
 |mW h=>
  intro w W es es' ha;obtain ⟨x,w',es1,h1,h2,h3⟩:=h w es;rw [h1];exact .inr ⟨h2, λr ds hA hr=>ha.defs r ds hA (h3 r ds hr)⟩
theorem bQ.run (hf:∀a b,Sh.lk a=false->f a=f b->a=b) {m:Sem α} {m':Sem β} (h:bQ P F f R m m'):
 ∀(w W:World) (es es':Array Event),Ag F f w W->uq F f R w W es es' (m.runT P w es) (m'.runT P W es'):=h.DL (Alike.refl P) hf
end
end Par
end
section
namespace Par
open Go
variable [Sh]
def dJ:Value->Bool
 | .bool _| .int .. | .string _| .nilFunc| .nilIface=>true
 | .pointer a=>a.isNone
 | .slice a .. =>a.isNone
 | .map a=>a.isNone
 | .chan a=>a.isNone
 |_=>false
def Rc:Value->Bool
 | .agg cs=>cs.all dJ
 |v=>dJ v
def plain0:Value->Bool
 | .tuple cs=>cs.all Rc
 |v=>dJ v
def r9:Value->Bool
 | .agg cs=>cs.all plain0
 |v=>plain0 v
theorem jd {F:Fit} {f:Nat->Nat} {v:Value} (h:dJ v=true):rv f v=v∧vs F v=true:=by
 cases v with
 |pointer a=>cases a<;>first |(cases h;done)|simp
 |slice a _ _=>cases a<;>first |(cases h;done)|simp
 |map a=>cases a<;>first |(cases h;done)|simp
 |chan a=>cases a<;>first |(cases h;done)|simp
 |_=>first |(cases h;done)|simp
theorem O3 {F:Fit} {f:Nat->Nat} {v:Value} (h:Rc v=true):rv f v=v∧vs F v=true:=by
 cases v with
 |agg cs=>
  have key:∀x∈cs,rv f x=x∧vs F x=true:= λx hx=>jd (aF.1 h x hx)
  refine ⟨?_,qm.2 λx hx=>(key x hx).2⟩;rw [ru];congr 1;exact (Array.map_congr_left λx hx=>(key x hx).1).trans (Array.map_id _)
 |_=>exact jd h
theorem Gc {F:Fit} {f:Nat->Nat} {v:Value} (h:plain0 v=true):rv f v=v∧vs F v=true:=by
 cases v with
 |tuple cs=>
  have key:∀x∈cs,rv f x=x∧vs F x=true:= λx hx=>O3 (aF.1 h x hx)
  refine ⟨?_,uK.2 λx hx=>(key x hx).2⟩;rw [uI];congr 1;exact (Array.map_congr_left λx hx=>(key x hx).1).trans (Array.map_id _)
 |_=>exact jd h
theorem Br {F:Fit} {f:Nat->Nat} {v:Value} (h:r9 v=true):rv f v=v∧vs F v=true:=by
 cases v with
 |agg cs=>
  have key:∀x∈cs,rv f x=x∧vs F x=true:= λx hx=>Gc (aF.1 h x hx)
  refine ⟨?_,qm.2 λx hx=>(key x hx).2⟩;rw [ru];congr 1;exact (Array.map_congr_left λx hx=>(key x hx).1).trans (Array.map_id _)
 |_=>exact Gc h
theorem Cn {v:Value} (h:r9 v=true):v.cells.all plain0=true:=by
 cases v with
 |agg cs=>exact h
 |_=>simpa [Value.cells,r9] using h
def qx (info:TypeId->Option TypeInfo):Prop:=∀t i v,info t=some i->i.zero=some v->r9 v=true
theorem Gd {σ:Type} (I:σ->Prop) {γ:Type} (body:γ->σ->Option (ForInStep σ)) (hb:∀a s s',I s->body a s=some s'->match s' with | .yield x=>I x| .done x=>I x):
 ∀(l:List γ) (s s':σ),I s->forIn l s body=some s'->I s'
 | [],s,s',h,e=>by simp at e;exact e ▸ h
 |a::l,s,s',h,e=>by
  rw [List.forIn_cons] at e;cases hx:body a s with
  |none=>rw [hx] at e;cases e
  |some y=>
   rw [hx] at e;have :=hb a s y h hx;cases y with
   |done x=>cases e;exact this
   |yield x=>exact Gd I body hb l x s' this e
theorem O4 {info:TypeId->Option TypeInfo} (hi:qx info) {t:TypeId} {i:TypeInfo} (h:info t=some i) {z:Option (Array Value)} {n:Nat} (hz:∀a,z=some a->a.all plain0=true):
 ∀a,(if n > Made.mostCells then none else do pure ((<-z)++(<-i.zero).cells))=some a->a.all plain0=true:=by
 intro a ha;split at ha
 ·cases ha
 ·obtain ⟨x,hx,ha⟩:=ay.1 ha;obtain ⟨y,hy,ha⟩:=ay.1 ha;cases ha;have h1:=hz x hx;have h2:=Cn (hi t i y h hy);rw [aF] at h1 h2 ⊢;intro v hv;rcases Array.mem_append.1 hv with hv|hv
  ·exact h1 v hv
  ·exact h2 v hv
theorem y9 {info:TypeId->Option TypeInfo} (hi:qx info) {fs:Array Field} {i:TypeInfo} {v:Value} (h:Made.reckonStruct info fs=some i) (hv:i.zero=some v):r9 v=true:=by
 unfold Made.reckonStruct at h;simp only [<-Array.forIn_toList] at h;obtain ⟨s,hs,h⟩:=ay.1 h
 have hI:=Gd (λs:Array Field×Nat×Nat×Nat×Nat×Bool×Bool×Option (Array Value)×String=>∀a,s.2.2.2.2.2.2.2.1=some a->a.all plain0=true) _ (λf s s' hI e=>by
  obtain ⟨i,hii,e⟩:=ay.1 e;have key:=O4 (n:=s.2.1+i.size) hi hii hI
  by_cases c1:i.str.isEmpty=true
  ·rw [if_pos c1] at e;cases e
  rw [if_neg c1] at e
  by_cases c2:f.embedded=true
  ·rw [if_pos c2] at e;cases e
  rw [if_neg c2] at e
  by_cases c3:f.tag.isEmpty=true
  ·rw [if_pos c3] at e;obtain ⟨tag,_,e⟩:=ay.1 e
   by_cases c4:i.bytes=0
   ·rw [if_pos c4] at e;cases e;exact key
   ·rw [if_neg c4] at e;cases e;exact key
  ·rw [if_neg c3] at e;obtain ⟨tag,_,e⟩:=ay.1 e
   by_cases c4:i.bytes=0
   ·rw [if_pos c4] at e;cases e;exact key
   ·rw [if_neg c4] at e;cases e;exact key) _ _ _ (by intro a ha;cases ha;simp) hs
 have fin:∀j:TypeInfo,some j=some i->j.zero=s.2.2.2.2.2.2.2.1.map .agg->r9 v=true:=by
  intro j e hj;cases e;rw [hj] at hv;obtain ⟨a,ha,rfl⟩:=Option.map_eq_some_iff.1 hv;exact hI a ha
 split at h<;>exact fin _ h rfl
theorem Ik {info:TypeId->Option TypeInfo} (hi:qx info) {d:TypeDesc} {i:TypeInfo} {v:Value} (h:Made.reckon info d=some i) (hv:i.zero=some v):r9 v=true:=by
 unfold Made.reckon at h;cases d with
 |pointer e=>
  obtain ⟨j,_,h⟩:=ay.1 h;split at h
  ·cases h
  ·split at h
   ·cases h
   ·obtain ⟨x,_,h⟩:=ay.1 h;cases h;cases hv;rfl
  ·obtain ⟨x,_,h⟩:=ay.1 h;cases h;cases hv;rfl
 |slice e=>
  obtain ⟨j,_,h⟩:=ay.1 h;obtain ⟨x,_,h⟩:=ay.1 h;cases h;cases hv;rfl
 |map k e=>
  obtain ⟨j,_,h⟩:=ay.1 h;obtain ⟨x,_,h⟩:=ay.1 h;obtain ⟨j',_,h⟩:=ay.1 h;obtain ⟨x',_,h⟩:=ay.1 h;cases h;cases hv;rfl
 |chan dir e=>
  obtain ⟨j,_,h⟩:=ay.1 h;obtain ⟨x,_,h⟩:=ay.1 h;cases h;cases hv;rfl
 |func ps rs vr=>
  obtain ⟨x,_,h⟩:=ay.1 h;cases h;cases hv;rfl
 |array n e=>
  obtain ⟨j,hj,h⟩:=ay.1 h;obtain ⟨x,_,h⟩:=ay.1 h;cases h;dsimp only at hv;split at hv
  ·cases hv
  ·split at hv
   ·cases hv;simp [r9]
   ·obtain ⟨z,hz,rfl⟩:=Option.map_eq_some_iff.1 hv;have :=Cn (hi e j z hj hz);show (Array.flatten _).all plain0=true;rw [aF] at this ⊢;intro y hy;obtain ⟨c,hc,hyc⟩:=Array.mem_flatten.1 hy;rw [(Array.mem_replicate.1 hc).2] at hyc;exact this y hyc
 |struct fs=>exact y9 hi h hv
 |_=>cases h
theorem zZ {T:Tables} (hT:qx λt=>T.types[t]?):∀n,qx (Made.infoAt T n)
 |0=>by intro t i v h;cases h
 |n+1=>by
  intro t i v h hv;unfold Made.infoAt at h;split at h
  ·exact hT t i v h hv
  ·obtain ⟨d,_,h⟩:=ay.1 h;exact Ik (zZ hT n) h hv
theorem Lr {T:Tables} (hT:qx λt=>T.types[t]?):qx T.info?:=by
 intro t i v h hv;unfold Tables.info? at h;split at h
 ·exact hT t i v h hv
 ·exact zZ hT _ t i v h hv
def iF (P:Program):Bool:=P.types.all λi=>match i.zero with |some v=>r9 v|none=>true
structure Rn (P:Program) (f:Nat->Nat):Prop where
 inj:∀a b,Sh.lk a=false->f a=f b->a=b
 jy:∀b,b<=P.globals.size->f b=b
 zeros:iF P=true
 glk:∀b,b<=P.globals.size->Sh.lk b=false
 bad:∀b,Sh.lk b=true->P.info? Sh.bad=none
 cc:∀b,Sh.lk b=true->∀t i,P.info? t=some i->∀u,i.desc≠ .named "sync.copyChecker" u
def VR (F:Fit) (f:Nat->Nat) (v v':Value):Prop:=v'=rv f v∧vs F v=true
def AR (F:Fit) (f:Nat->Nat) (a a':Addr):Prop:=a'=ra f a∧F.A a.block=true
def jI (F:Fit) (f:Nat->Nat) (v v':Array Value):Prop:=v'=v.map (rv f)∧VS F v
section
variable {P:Program} {F:Fit} {f:Nat->Nat} {α β γ δ:Type}
theorem bQ.mono {R R':α->β->Prop} {m:Sem α} {m':Sem β} (h:bQ P F f R m m') (hr:∀a b,R a b->R' a b):bQ P F f R' m m':=by
 induction h with
 |pure h=>exact .pure (hr _ _ h)
 |load hA h ih=>exact .load hA λv hv=>ih v hv
 |store hA hv h ih=>exact .store hA hv ih
 |new ho h ih=>exact .new ho ih
 |qo ho e1 e2 h ih=>exact .qo ho e1 e2 ih
 |shape hA h hl ih ihl=>exact .shape hA ih ihl
 |getObj hA h ih=>exact .getObj hA λo h1 h2 h3=>ih o h1 h2 h3
 |DF hA hl=>exact .DF hA hl
 |setObj hA ho hc h ih=>exact .setObj hA ho hc ih
 |choose h ih=>exact .choose ih
 |program e h ih=>exact .program e ih
 |noRoom h ih=>exact .noRoom ih
 |mW h=>exact .mW h
theorem runT_bind (m:Sem α) (k:α->Sem γ):∀(w:World) (es:Array Event),Sem.runT P (m.bind k) w es=match Sem.runT P m w es with
 |(.ok a w',es')=>Sem.runT P (k a) w' es'
 |(.halt h w',es')=>(.halt h w',es'):=by
 induction m with
 |pure a=>intro w es;rfl
 |load m a k' ih=>
  intro w es;simp only [Sem.bind,Sem.runT];cases w.cell? a with
  |some v=>exact ih v _ _
  |none=>
   dsimp only;cases w.farLoad P a (m== .atomic) with
   |ok x=>exact ih _ _ _
   |error x=>rfl
 |store m a v k' ih=>
  intro w es
  cases v<;>first
   |rfl
   |(simp only [Sem.bind,Sem.runT];cases w.cell? a with
     |some x=>
      dsimp only
      by_cases hz:w.frozen? a=true
      ·simp only [hz,if_true]
      ·simp only [hz,if_false,aS];exact ih _ _
     |none=>
      dsimp only;cases w.farStore P a _ (m== .atomic) with
      |ok x=>exact ih _ _
      |error x=>rfl)
 |new o k' ih=>intro w es;exact ih _ _ _
 |shape r k' ih=>intro w es;exact ih _ _ _
 |freeze a n k' ih=>intro w es;exact ih _ _
 |frozen a k' ih=>intro w es;exact ih _ _ _
 |getObj r k' ih=>
  intro w es;simp only [Sem.bind,Sem.runT];cases hr:w.heap[r]? with
  |none=>rfl
  |some o=>cases o<;>first |rfl|exact ih _ _ _
 |setObj r o k' ih=>
  intro w es;simp only [Sem.bind,Sem.runT];cases hr:w.heap[r]? with
  |none=>rfl
  |some o=>cases o<;>first |rfl|exact ih _ _
 |choose q k' ih=>
  intro w es;simp only [Sem.bind,Sem.runT]
  by_cases hq:q.forced=true
  ·simp only [hq,if_true];exact ih _ _ _
  ·simp only [hq,if_false,aS];exact ih _ _ _
 |sys c k' ih=>intro w es;exact ih _ _ _
 |program k' ih=>intro w es;exact ih _ _ _
 |mark m k' ih=>intro w es;exact ih _ _
 |halt h=>intro w es;rfl
theorem bQ.Re {R:α->β->Prop} {R':γ->δ->Prop} {m:Sem α} {m':Sem β} {k:α->Sem γ} {k':β->Sem δ} (h:bQ P F f R m m') (hk:∀a b,R a b->bQ P F f R' (k a) (k' b)):
 bQ P F f R' (m.bind k) (m'.bind k'):=by
 induction h with
 |pure h=>exact hk _ _ h
 |load hA h ih=>exact .load hA λv hv=>ih v hv
 |store hA hv h ih=>exact .store hA hv ih
 |new ho h ih=>exact .new ho ih
 |qo ho e1 e2 h ih=>exact .qo (k:= λr=>(_:Sem α).bind k) (k':= λr=>(_:Sem β).bind k') ho (λr=>by rw [e1];rfl) (λr=>by rw [e2];rfl) ih
 |shape hA h hl ih ihl=>exact .shape hA ih ihl
 |getObj hA h ih=>exact .getObj hA λo h1 h2 h3=>ih o h1 h2 h3
 |DF hA hl=>exact .DF hA hl
 |setObj hA ho hc h ih=>exact .setObj hA ho hc ih
 |choose h ih=>exact .choose ih
 |program e h ih=>exact .program (λQ hQ=>by show (_:Sem β).bind _=_;rw [e Q hQ]) ih
 |noRoom h ih=>exact .noRoom ih
 |mW h=>
  refine .mW λw es=>?_
  obtain ⟨x,w',es',h1,h2⟩:=h w es;exact ⟨x,w',es',by rw [runT_bind,h1],h2⟩
theorem bQ.bind {R:α->β->Prop} {R':γ->δ->Prop} {m:Sem α} {m':Sem β} {k:α->Sem γ} {k':β->Sem δ} (h:bQ P F f R m m') (hk:∀a b,R a b->bQ P F f R' (k a) (k' b)):
 bQ P F f R' (m >>=k) (m' >>=k'):=h.Re hk
theorem bQ.bX {R':γ->δ->Prop} {m m':Sem α} {k:α->Sem γ} {k':α->Sem δ} (h:bQ P F f Eq m m') (hk:∀a,bQ P F f R' (k a) (k' a)):bQ P F f R' (m >>=k) (m' >>=k'):=
 h.bind λa b e=>by subst e;exact hk a
theorem bQ.ret {R:α->β->Prop} {a:α} {b:β} (h:R a b):bQ P F f R (Pure.pure a) (Pure.pure b):=.pure h
theorem xZ (s:String):Jo (.stuck s):=trivial
theorem fq {R:α->β->Prop} (s:String) (m':Sem β):bQ P F f R (stuck s) m':=.bad (xZ s)
theorem xy {R:α->β->Prop} {u:Unsupported} (h:∀g,u≠ .initOrder g) (m':Sem β):bQ P F f R (unsupported u) m':=.bad (by cases u<;>first |trivial|exact absurd rfl (h _))
theorem ND (a:Addr) (hA:F.A a.block=true):bQ P F f (VR F f) (load a) (load (ra f a)):=.load hA λ_ hv=>.pure ⟨rfl,hv⟩
theorem Rf (a:Addr) (hA:F.A a.block=true) {v:Value} (hv:vs F v=true):bQ P F f Eq (store a v) (store (ra f a) (rv f v)):=.store hA hv (.pure rfl)
theorem rU {o:Obj} (ho:oS F o):bQ P F f (λr r'=>r'=f r∧F.A r=true∧Sh.lk r=false) (newObj o) (newObj (ro f o)):=.new ho λ_ h hl=>.pure ⟨rfl,h,hl⟩
theorem DN {r n:Nat} {x:Option Nat} (h:Sh.lk r=false):ra f ⟨r,n,x⟩=⟨f r,n,x⟩:=by unfold ra;simp [Sh.Yl _ h]
theorem jA (r:Nat) (hA:F.A r=true):bQ P F f (λo o'=>o'=ro f o∧oS F o∧isCells o=false) (getObj r) (getObj (f r)):=.getObj hA λ_ h1 h2 _=>.pure ⟨rfl,h1,h2⟩
theorem Ls (r:Nat) (hA:F.A r=true):bQ P F f (λo o'=>o'=ro f o∧oS F o∧isCells o=false∧Sh.lk r=false) (getObj r) (getObj (f r)):=.getObj hA λ_ h1 h2 h3=>.pure ⟨rfl,h1,h2,h3⟩
theorem qy (r:Nat) (hA:F.A r=true) {o:Obj} (ho:oS F o) (hc:isCells o=false):bQ P F f Eq (setObj r o) (setObj (f r) (ro f o)):=.setObj hA ho hc (.pure rfl)
theorem mF (q:Question):bQ P F f Eq (choose q) (choose q):=.choose λ_=>.pure rfl
section
variable {P Q:Program}
theorem Rh (P:Program) (q:FuncId) (c:Code) (g:FuncId):(P.stub q c).funcs[g]?=(P.funcs[g]?).map λfn=>if g=q then { fn with body:=some c } else fn:=by
 show (P.funcs.modify q _)[g]?=_
 rw [aQ]
 by_cases e:q=g
 ·subst e;simp
 ·rw [if_neg e];cases P.funcs[g]? with
  |none=>rfl
  |some fn=>
   show some fn=some (if g=q then _ else fn);rw [if_neg λh:g=q=>e h.symm]
theorem Alike.get (hQ:Alike P Q) (g:FuncId):∃h:Func->Func,Q.funcs[g]?=(P.funcs[g]?).map h∧∀fn,∃b,h fn= { fn with body:=b }∧(fn.body.isSome=true->b.isSome=true):=by
 rcases hQ with rfl|⟨q,c,_,_,_,_,rfl⟩
 ·exact ⟨id,by simp, λfn=>⟨fn.body,rfl,id⟩⟩
 ·refine ⟨_,Rh P q c g, λfn=>?_⟩;split
  ·exact ⟨_,rfl, λ_=>rfl⟩
  ·exact ⟨fn.body,rfl,id⟩
theorem Alike.underlying (h:Alike P Q) (t:TypeId):Q.underlying t=P.underlying t:=by rcases h with rfl|⟨_,_,_,_,_,_,rfl⟩<;>rfl
theorem Alike.info (h:Alike P Q) (t:TypeId):Q.info? t=P.info? t:=by rcases h with rfl|⟨_,_,_,_,_,_,rfl⟩<;>rfl
theorem Alike.cellsOf (h:Alike P Q) (t:TypeId):Q.cellsOf t=P.cellsOf t:=by rcases h with rfl|⟨_,_,_,_,_,_,rfl⟩<;>rfl
theorem Alike.bytesOf (h:Alike P Q) (t:TypeId):Q.bytesOf t=P.bytesOf t:=by rcases h with rfl|⟨_,_,_,_,_,_,rfl⟩<;>rfl
theorem Alike.depth (h:Alike P Q):Q.depth=P.depth:=by rcases h with rfl|⟨_,_,_,_,_,_,rfl⟩<;>rfl
theorem Alike.globals (h:Alike P Q):Q.globals=P.globals:=by rcases h with rfl|⟨_,_,_,_,_,_,rfl⟩<;>rfl
theorem Alike.underlyingId (h:Alike P Q) (t:TypeId):Q.underlyingId t=P.underlyingId t:=by rcases h with rfl|⟨_,_,_,_,_,_,rfl⟩<;>rfl
theorem Alike.cutTypes (h:Alike P Q):Q.cutTypes=P.cutTypes:=by rcases h with rfl|⟨_,_,_,_,_,_,rfl⟩<;>rfl
theorem Alike.tags (h:Alike P Q):∀n t u,Q.alikeButTags n t u=P.alikeButTags n t u
 |0,_,_=>rfl
 |n+1,t,u=>by
  unfold Go.Program.alikeButTags;simp only [h.underlying,h.info,h.underlyingId,Alike.tags h n]
theorem Alike.stoodInHeld (h:Alike P Q) (t:TypeId):Q.stoodInHeld t=P.stoodInHeld t:=by
 unfold Go.Program.stoodInHeld Go.Program.stoodInAs;simp only [h.underlying,h.info,h.underlyingId,h.depth,h.cutTypes,h.tags]
theorem Alike.byteOfCell (h:Alike P Q):∀d t off,Go.byteOfCell Q d t off=Go.byteOfCell P d t off
 |0,_,_=>rfl
 |d+1,t,off=>by
  unfold Go.byteOfCell;simp only [h.underlying,h.cellsOf,h.bytesOf,Alike.byteOfCell h d]
theorem Alike.cellOfByte (h:Alike P Q):∀d t b,Go.cellOfByte Q d t b=Go.cellOfByte P d t b
 |0,_,_=>rfl
 |d+1,t,b=>by
  unfold Go.cellOfByte;simp only [h.underlying,h.cellsOf,h.bytesOf,Alike.cellOfByte h d]
theorem Alike.cellAtBytes (h:Alike P Q) (d:Nat) (e:TypeId) (n o:Nat) (b:Int):Go.cellAtBytes Q d e n o b=Go.cellAtBytes P d e n o b:=by
 unfold Go.cellAtBytes;simp only [h.cellsOf,h.bytesOf,h.byteOfCell,h.cellOfByte]
theorem Alike.eqGuardType (h:Alike P Q):∀d t,Q.eqGuardType d t=P.eqGuardType d t
 |0,_=>rfl
 |d+1,t=>by
  unfold Go.Program.eqGuardType;simp only [h.underlying,Alike.eqGuardType h d]
end
theorem bQ.uN {R:α->β->Prop} {k:Program->Sem α} {k':Program->Sem β} (h:bQ P F f R (k P) (k' P)) (e:∀Q,Alike P Q->k' Q=k' P:=by rintro _ (rfl|⟨_,_,_,_,_,_,rfl⟩)<;>rfl):bQ P F f R (Go.program >>=k) (Go.program >>=k'):=.program e h
theorem O5:bQ P F f Eq (mark .noRoom) (mark .noRoom):=.noRoom (.pure rfl)
theorem Co (t:TypeId):bQ P F f (λa b=>a=b∧P.info? t=some a) (typeInfo t) (typeInfo t):=by
 unfold typeInfo;refine .uN ?_
 split
 ·exact .ret ⟨rfl,by assumption⟩
 ·exact fq _ _
theorem je (t:TypeId):bQ P F f Eq (typeInfo t) (typeInfo t):=(Co t).mono λ_ _ h=>h.1
theorem cz (t:TypeId):bQ P F f Eq (underlying t) (underlying t):=by
 unfold underlying;refine .uN ?_
 split
 ·exact .ret rfl
 ·exact fq _ _
theorem iq (t:TypeId):bQ P F f Eq (Go.sizeOf t) (Go.sizeOf t):=by
 unfold Go.sizeOf;exact (je t).bX λ_=>.ret rfl
theorem Jt (t:TypeId):bQ P F f Eq (isAgg t) (isAgg t):=by
 unfold isAgg;refine (cz t).bX λd=>?_
 split<;>exact .ret rfl
theorem Vl (hz:iF P=true) {t:TypeId} {i:TypeInfo} {v:Value} (h:P.info? t=some i) (hv:i.zero=some v):rv f v=v∧vs F v=true:=by
 refine Br (Lr (λt i v h hv=>?_) t i v h hv);have hm:i∈P.types:=aK h;have :=aF.1 hz i hm
 rwa [hv] at this
theorem lF (hz:iF P=true) (t:TypeId):bQ P F f (λv v'=>v'=v∧rv f v=v∧vs F v=true) (zeroValue t) (zeroValue t):=by
 unfold zeroValue;refine (Co t).bind ?_
 rintro i _ ⟨rfl,hi⟩;split
 ·exact .ret ⟨rfl,Vl hz hi (by assumption)⟩
 ·exact xy (by simp) _
theorem DR (hz:iF P=true) (t:TypeId):bQ P F f (VR F f) (zeroValue t) (zeroValue t):=(lF hz t).mono λ_ _ h=>⟨h.1.trans h.2.1.symm,h.2.2⟩
theorem add_block' (a:Addr) (n:Nat):(a.add n).block=a.block:=by unfold Addr.add;split<;>rfl
theorem uO (a:Addr) (hA:F.A a.block=true):∀(n i:Nat) (acc:Array Value),VS F acc->bQ P F f (jI F f) (loadCellsFrom a i n acc) (loadCellsFrom (ra f a) i n (acc.map (rv f)))
 |0,_,_,h=>.ret ⟨rfl,h⟩
 |n+1,i,acc,h=>by
  unfold loadCellsFrom;refine (bQ.bind (by rw [<-Bp];exact ND _ (by rw [add_block'];exact hA)) ?_);rintro v _ ⟨rfl,hv⟩;rw [<-Array.map_push]
  exact uO a hA n (i+1) _ λx hx=>by
   rcases Array.mem_push.1 hx with hx|rfl
   ·exact h x hx
   ·exact hv
theorem z8 (a:Addr) (hA:F.A a.block=true) (n:Nat):bQ P F f (jI F f) (loadCells a n) (loadCells (ra f a) n):=by
 have :=uO (P:=P) (F:=F) (f:=f) a hA n 0 #[] (by intro x hx;simp at hx);simpa [loadCells] using this
theorem qI (a:Addr) (hA:F.A a.block=true):∀(l:List Value) (i:Nat),(∀v∈l,vs F v=true)->bQ P F f Eq (storeCells a l i) (storeCells (ra f a) (l.map (rv f)) i)
 | [],_,_=>.ret rfl
 |v::l,i,h=>by
  simp only [List.map_cons];unfold storeCells;refine bQ.bX (by rw [<-Bp];exact Rf _ (by rw [add_block'];exact hA) (h v (by simp))) λ_=>?_
  exact qI a hA l (i+1) λx hx=>h x (by simp [hx])
theorem DT (t:TypeId) (a:Addr) (hA:F.A a.block=true):bQ P F f (VR F f) (loadVar t a) (loadVar t (ra f a)):=by
 unfold loadVar;refine (Jt t).bX λb=>?_
 cases b
 ·simpa using ND a hA
 ·simp only [if_true];refine (iq t).bX λn=>?_
  refine (z8 a hA n).bind ?_
  rintro c _ ⟨rfl,hc⟩;exact .ret ⟨by simp,qm.2 hc⟩
theorem Ju (t:TypeId) (a:Addr) (hA:F.A a.block=true) {v:Value} (hv:vs F v=true):bQ P F f Eq (storeVar t a v) (storeVar t (ra f a) (rv f v)):=by
 unfold storeVar;refine (iq t).bX λn=>?_
 rw [uJ,Array.size_map,Array.toList_map];split
 ·exact (fq (R:=Eq) _ _).bX λ_=>qI a hA _ _ λx hx=>VS.cells hv x (by simpa using hx)
 ·exact qI a hA _ _ λx hx=>VS.cells hv x (by simpa using hx)
theorem uP (e:TypeId) {c:Array Value} (hc:VS F c):bQ P F f (AR F f) (newRow e c) (newRow e (c.map (rv f))):=by
 unfold newRow;refine bQ.bind (rU (o:=.cells c e) hc) ?_
 rintro r _ ⟨rfl,hr,hl⟩;exact .ret ⟨(DN hl).symm,hr⟩
theorem Gf (t:TypeId) {v:Value} (hv:vs F v=true):bQ P F f (AR F f) (newVar t v) (newVar t (rv f v)):=by
 unfold newVar;rw [uJ];exact uP t (VS.cells hv)
end
end Par
end
section
namespace Par
open Go Go.RowKit
def dh (w:World) (v:Value):Prop:=∀g,v.ownBlock=some g->∃cur e,w.heap[g]?=some (.cells cur e)∧∀x∈cur,dJ x=true
theorem dh.nil (w:World):dh w (.slice none 0 0):= λg h=>by cases h
theorem dh.keep {w w':World} {v:Value} (h:dh w v) (hk:∀g,v.ownBlock=some g->w'.heap[g]?=w.heap[g]?):dh w' v:= λg hg=>by
 obtain ⟨c,e,h1,h2⟩:=h g hg;exact ⟨c,e,(hk g hg).trans h1,h2⟩
theorem dh.alloc {w:World} {v:Value} (h:dh w v) (o:Obj):dh (w.alloc o) v:= λg hg=>by
 obtain ⟨c,e,h1,h2⟩:=h g hg;exact ⟨c,e,(Below.heap_alloc _ _ _ (aa.1 h1).1).trans h1,h2⟩
theorem dh.setCell {w:World} {g n cap j:Nat} {v:Value} (h:dh w (.slice (some ⟨g,0,none⟩) n cap)) (hv:dJ v=true):dh (w.setCell ⟨g,j,none⟩ v) (.slice (some ⟨g,0,none⟩) n cap):= λg' hg=>by
 have e:g=g':=by simpa [Value.ownBlock] using hg
 subst e;obtain ⟨c,e,h1,h2⟩:=h g rfl;refine ⟨c.setIfInBounds j v,e,heap_setCell_same w g j c e v h1, λx hx=>?_⟩
 ·rcases aW hx with hx|rfl
  ·exact h2 x hx
  ·exact hv
section
variable {P:Program} {w:World}
theorem qz (base:Nat) (t ty e:TypeId) (i:TypeInfo) (z:Value) (size bytes:Nat) (ht:P.underlying t=some (.slice e)) (hi:P.info? e=some i) (hz:i.zero=some z)
 (hsize:i.size=size) (hby:i.bytes=bytes) (hzs:z.cells.size=size) (hsz:0<size)
 (v:Value) (n:Nat) (xs:List Value) (hown:w.ownsRow base e size v n xs)
 (a:Addr) (m c:Nat) (news:List Value) (hl:news.length=m*size) (hnews:∀j u,news[j]?=some u->w.cell? (a.add j)=some u) (h1:∀u∈news,u.oneCell'=true)
 (h63:n+m<=maxLen) (hbytes:(n+m)*bytes<=140737488355328) (hbase:base<=w.heap.size)
 (hpv:dh w v) (hpx:∀u∈news,dJ u=true) (hpz:∀u∈z.cells,dJ u=true) {v':Value} {w':World}
 (hr:(Builtin.append_ #[t,t] ty #[v,.slice (some a) m c]).run P w= .ok v' w'):dh w' v':=by
 subst hsize;subst hby;have hsmall:n+m<=9223372036854775807:=by simp only [maxLen] at h63;omega
 have zc:∀k,∀x∈Builtin.zeroCells z.cells k,dJ x=true:=by
  intro k x hx;unfold Builtin.zeroCells at hx;simp at hx;obtain ⟨q,_,rfl⟩:=hx;have hlt:q%z.cells.size<z.cells.size:=Nat.mod_lt _ (by omega);rw [getElem!_pos z.cells _ hlt];exact hpz _ (Array.getElem_mem hlt)
 rcases hown.2 with ⟨rfl,rfl⟩|⟨g,cap,cur,rfl,hbg,hg,hnc,hcm,hcs,htake⟩
 ·have hx:xs= []:=List.eq_nil_of_length_eq_zero (by simpa using hown.1);subst hx
  by_cases hm:m=0
  ·subst hm;have hn:news= []:=List.eq_nil_of_length_eq_zero (by simpa using hl);subst hn
   have :(Builtin.append_ #[t,t] ty #[.slice none 0 0,.slice (some a) 0 c]).run P w= .ok (.slice none 0 0) w:=by
    simp [Builtin.append_,run_underlying ht,Go.sizeOf,Go.typeInfo,hi,Builtin.lenOf,Builtin.firstCells,loadCells,loadCellsFrom]
   rw [this] at hr;cases hr;exact .nil _
  ·have hr2:=run_append_nil (P:=P) w t ty e i z ht hi hz a m c news hl hnews (by omega) (by omega) (by have hb:=hbytes;simp only [Nat.zero_add] at hb;omega);rw [hr2] at hr;cases hr;intro g hg;have e1:w.heap.size=g:=by simpa [Value.ownBlock] using hg
   subst e1;refine ⟨_,_,heap_alloc_new w.drew _, λx hx=>?_⟩;simp only [Array.mem_append,List.mem_toArray] at hx;rcases hx with hx|hx
   ·exact hpx x hx
   ·exact zc _ x hx
 ·by_cases hroom:n+m<=cap
  ·have hfit:n*i.size+news.length<=cur.size:=by rw [hl,hcs, <-Nat.add_mul];exact Nat.mul_le_mul_right _ hroom
   have hr2:=run_append_room (P:=P) w t ty e i ht hi g n cap cur hg a m c news hl hnews h1 hroom hfit;rw [hr2] at hr;cases hr;intro g' hg';have e1:g=g':=by simpa [Value.ownBlock] using hg'
   subst e1;obtain ⟨c',e',q1,q2⟩:=hpv g rfl;rw [hg] at q1;cases q1;refine ⟨_,_,setRow_heap w g cur _ e _ hg, λx hx=>?_⟩;simp only [List.mem_toArray,List.mem_append] at hx;rcases hx with (hx|hx)|hx
   ·exact q2 x (by have :=aU hx;simpa using this)
   ·exact hpx x hx
   ·exact q2 x (by have :=List.mem_of_mem_drop hx;simpa using this)
  ·have holds:∀j u,xs[j]?=some u->w.cell? ((⟨g,0,none⟩:Addr).add j)=some u:=hown.cells (g:=g) rfl
   have hr2:=run_append_grow (P:=P) w t ty e i z ht hi hz ⟨g,0,none⟩ n cap xs hown.1 holds a m c news hl hnews (by omega) (by omega) (growslice_fits (by omega) hbytes);rw [hr2] at hr;cases hr;intro g' hg';have e1:w.heap.size=g':=by simpa [Value.ownBlock] using hg'
   subst e1;obtain ⟨c',e',q1,q2⟩:=hpv g rfl;rw [hg] at q1;cases q1;refine ⟨_,_,heap_alloc_new w.drew _, λx hx=>?_⟩;simp only [Array.mem_append,List.mem_toArray] at hx;rcases hx with (hx|hx)|hx
   ·rw [<-htake] at hx;exact q2 x (by have :=aU hx;simpa using this)
   ·exact hpx x hx
   ·exact zc _ x hx
theorem eP {ops:Array Oper} {rest:List Oper} {o:Oper} {a:Act} {Q:Exit->Act->World->Prop} (hgd:o.guard=none) (s x:Operand) (t:TypeId)
 (ho:o.op= .call { callee:=.builtin .append,args:= #[s,x],argTypes:= #[t,t] })
 (base:Nat) (e:TypeId) (i:TypeInfo) (z:Value) (size bytes:Nat) (ht:P.underlying t=some (.slice e)) (hi:P.info? e=some i) (hz:i.zero=some z)
 (hsize:i.size=size) (hby:i.bytes=bytes) (hzs:z.cells.size=size) (hsz:0<size)
 (v:Value) (n:Nat) (xs:List Value) (hs:a.eval s=v) (hown:w.ownsRow base e size v n xs)
 (ad:Addr) (m c:Nat) (news:List Value) (hx:a.eval x= .slice (some ad) m c) (hl:news.length=m*size) (hnews:∀j u,news[j]?=some u->w.cell? (ad.add j)=some u) (h1:∀u∈news,u.oneCell'=true)
 (h63:n+m<=maxLen) (hbytes:(n+m)*bytes<=140737488355328) (hbase:base<=w.heap.size) (hpv:dh w v) (hpx:∀u∈news,dJ u=true) (hpz:∀u∈z.cells,dJ u=true)
 (h:∀v' w',w'.ownsRow base e size v' (n+m) (xs++news)->w.grownBy w' v.ownBlock->(v'= .slice none 0 0↔v= .slice none 0 0∧m=0)->dh w' v'->wpList P ops Q rest (a.put o.dst v') w'):wpList P ops Q (o::rest) a w:=
 wpList_plain hgd λK hK=>by
  obtain ⟨v',w',hr,h2,h3,h4⟩:=run_append_own (P:=P) w base t o.type e i z size bytes ht hi hz hsize hby hzs hsz v n xs hown ad m c news hl hnews h1 h63 hbytes hbase;have hp:=qz (P:=P) (w:=w) base t o.type e i z size bytes ht hi hz hsize hby hzs hsz v n xs hown ad m c news hl hnews h1 h63 hbytes hbase hpv hpx hpz hr;unfold Oper.wp execOp;simp only [ho,resolve,invoke,builtin,Sem.run_bind,Sem.run_pure,Result.andThen_ok,List.map_toArray,List.map_cons,List.map_nil,hs,hx,hr];exact hK _ _ (h v' w' h2 h3 h4 hp)
theorem Aa {o:Oper} {a:Act} {K:Act->World->Prop} {Q:Exit->Act->World->Prop} (s x:Operand) (t:TypeId)
 (ho:o.op= .call { callee:=.builtin .append,args:= #[s,x],argTypes:= #[t,t] })
 (base:Nat) (e:TypeId) (i:TypeInfo) (z:Value) (size bytes:Nat) (ht:P.underlying t=some (.slice e)) (hi:P.info? e=some i) (hz:i.zero=some z)
 (hsize:i.size=size) (hby:i.bytes=bytes) (hzs:z.cells.size=size) (hsz:0<size)
 (v:Value) (n:Nat) (xs:List Value) (hs:a.eval s=v) (hown:w.ownsRow base e size v n xs)
 (ad:Addr) (m c:Nat) (news:List Value) (hx:a.eval x= .slice (some ad) m c) (hl:news.length=m*size) (hnews:∀j u,news[j]?=some u->w.cell? (ad.add j)=some u) (h1:∀u∈news,u.oneCell'=true)
 (hm:0<m) (h63:n+m<=maxLen) (hbytes:(n+m)*bytes<=140737488355328) (hbase:base<=w.heap.size) (H:Nat) (hH:w.heap.size=H) (hpv:dh w v) (hpx:∀u∈news,dJ u=true) (hpz:∀u∈z.cells,dJ u=true)
 (h:∀g cap w',w'.ownsRow base e size (.slice (some ⟨g,0,none⟩) (n+m) cap) (n+m) (xs++news)->w.grownBy w' v.ownBlock->(v.ownBlock=some g∨g=H)->g<w'.heap.size->dh w' (.slice (some ⟨g,0,none⟩) (n+m) cap)->K (a.put o.dst (.slice (some ⟨g,0,none⟩) (n+m) cap)) w'):
 Oper.wp P o a w K Q:=by
 obtain ⟨v',w',hr,h2,h3,_,h5⟩:=run_append_own_at (P:=P) w base t o.type e i z size bytes ht hi hz hsize hby hzs hsz v n xs hown ad m c news hl hnews h1 h63 hbytes hbase;have hp:=qz (P:=P) (w:=w) base t o.type e i z size bytes ht hi hz hsize hby hzs hsz v n xs hown ad m c news hl hnews h1 h63 hbytes hbase hpv hpx hpz hr;unfold Oper.wp execOp;simp only [ho,resolve,invoke,builtin,Sem.run_bind,Sem.run_pure,Result.andThen_ok,List.map_toArray,List.map_cons,List.map_nil,hs,hx,hr];rcases h2.2 with ⟨h0,_⟩|⟨g,cap,cur,rfl,hbg,hg,_⟩
 ·omega
 ·exact h g cap w' h2 h3 (by rcases h5 with h5|h5
                             ·exact .inl (h5.symm.trans rfl)
                             ·exact .inr (by have :=h5;simp [Value.ownBlock] at this;omega)) (aa.1 hg).1 hp
theorem mZ {ops:Array Oper} {o:Oper} {a:Act} {K:Act->World->Prop} {Q:Exit->Act->World->Prop} {E:Prop} (hgd:o.guard=none) (s x:Operand) (t:TypeId)
 (ho:o.op= .call { callee:=.builtin .append,args:= #[s,x],argTypes:= #[t,t] })
 (base:Nat) (e:TypeId) (i:TypeInfo) (z:Value) (size bytes:Nat) (ht:P.underlying t=some (.slice e)) (hi:P.info? e=some i) (hz:i.zero=some z)
 (hsize:i.size=size) (hby:i.bytes=bytes) (hzs:z.cells.size=size) (hsz:0<size)
 (v:Value) (n:Nat) (xs:List Value) (hs:a.eval s=v) (hown:w.ownsRow base e size v n xs)
 (ad:Addr) (m c:Nat) (news:List Value) (hx:a.eval x= .slice (some ad) m c) (hl:news.length=m*size) (hnews:∀j u,news[j]?=some u->w.cell? (ad.add j)=some u) (h1:∀u∈news,u.oneCell'=true)
 (hm:0<m) (h63:n+m<=maxLen) (hbytes:(n+m)*bytes<=140737488355328) (hbase:base<=w.heap.size) (H:Nat) (hH:w.heap.size=H) (hpv:dh w v) (hpx:∀u∈news,dJ u=true) (hpz:∀u∈z.cells,dJ u=true)
 (h:∀g cap w',w'.ownsRow base e size (.slice (some ⟨g,0,none⟩) (n+m) cap) (n+m) (xs++news)->w.grownBy w' v.ownBlock->(v.ownBlock=some g∨g=H)->g<w'.heap.size->dh w' (.slice (some ⟨g,0,none⟩) (n+m) cap)->K (a.put o.dst (.slice (some ⟨g,0,none⟩) (n+m) cap)) w'):
 if Region.wanted o (yielded ops a.tmps)=true then Oper.wp P o a w K Q else E:=by
 have hw:Region.wanted o (yielded ops a.tmps)=true:=by simp [Region.wanted,hgd]
 rw [if_pos hw];exact Aa s x t ho base e i z size bytes ht hi hz hsize hby hzs hsz v n xs hs hown ad m c news hx hl hnews h1 hm h63 hbytes hbase H hH hpv hpx hpz h
theorem Bt {ops:Array Oper} {rest:List Oper} {o:Oper} {a:Act} {Q:Exit->Act->World->Prop} (hgd:o.guard=none) (s x:Operand) (t:TypeId)
 (ho:o.op= .call { callee:=.builtin .append,args:= #[s,x],argTypes:= #[t,t] })
 (base:Nat) (e:TypeId) (i:TypeInfo) (z:Value) (size bytes:Nat) (ht:P.underlying t=some (.slice e)) (hi:P.info? e=some i) (hz:i.zero=some z)
 (hsize:i.size=size) (hby:i.bytes=bytes) (hzs:z.cells.size=size) (hsz:0<size)
 (v:Value) (n:Nat) (xs:List Value) (hs:a.eval s=v) (hown:w.ownsRow base e size v n xs)
 (ad:Addr) (m c:Nat) (news:List Value) (hx:a.eval x= .slice (some ad) m c) (hl:news.length=m*size) (hnews:∀j u,news[j]?=some u->w.cell? (ad.add j)=some u) (h1:∀u∈news,u.oneCell'=true)
 (hm:0<m) (h63:n+m<=maxLen) (hbytes:(n+m)*bytes<=140737488355328) (hbase:base<=w.heap.size) (H:Nat) (hH:w.heap.size=H) (hpv:dh w v) (hpx:∀u∈news,dJ u=true) (hpz:∀u∈z.cells,dJ u=true)
 (h:∀g cap w',w'.ownsRow base e size (.slice (some ⟨g,0,none⟩) (n+m) cap) (n+m) (xs++news)->w.grownBy w' v.ownBlock->(v.ownBlock=some g∨g=H)->g<w'.heap.size->dh w' (.slice (some ⟨g,0,none⟩) (n+m) cap)->wpList P ops Q rest (a.put o.dst (.slice (some ⟨g,0,none⟩) (n+m) cap)) w'):wpList P ops Q (o::rest) a w:=
 wpList_plain hgd λ_ hK=>Aa s x t ho base e i z size bytes ht hi hz hsize hby hzs hsz v n xs hs hown ad m c news hx hl hnews h1 hm h63 hbytes hbase H hH hpv hpx hpz λg cap w' a1 a2 a3 a4 a5=>hK _ _ (h g cap w' a1 a2 a3 a4 a5)
end
end Par
end
