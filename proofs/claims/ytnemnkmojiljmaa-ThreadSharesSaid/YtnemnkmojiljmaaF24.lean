/- Part 24. -/
import Derived.Conc.Own3
import Derived.Test.YtnemnkmojiljmaaF15
set_option maxRecDepth 100000
set_option maxHeartbeats 8000000
set_option linter.all false
section
namespace Par
open Go Go.Conc Go.ConcM
attribute [local instance] noSh
mutual
theorem Ot:∀v:Value,rv (λb=>b) v=v
 | .bool _=>by simp
 | .int _ _=>by simp
 | .float _ _=>by simp
 | .complex _ _ _=>by simp
 | .string _=>by simp
 | .pointer none=>by simp
 | .pointer (some a)=>by simp only [dm,Option.map_some];rfl
 | .slice none _ _=>by simp
 | .slice (some a) _ _=>by simp only [dY,Option.map_some];rfl
 | .map none=>by simp
 | .map (some r)=>by simp
 | .chan none=>by simp
 | .chan (some r)=>by simp
 | .func fn a b=>by
   rw [rv,Fp a,Fp b];cases fn<;>rfl
 | .nilFunc=>by simp
 | .iface t v=>by rw [rv,Ot v]
 | .nilIface=>by simp
 | .agg a=>by rw [rv,Fp a]
 | .tuple a=>by rw [rv,Fp a]
theorem Fp:∀a:Array Value,Nz (λb=>b) a=a
 |⟨l⟩=>by rw [Nz,TT l]
theorem TT:∀l:List Value,Jj (λb=>b) l=l
 | []=>by rw [Jj]
 |v::l=>by rw [Jj,Ot v,TT l]
end
theorem mR (a:Array Value):a.map (rv λb=>b)=a:=by rw [<-Ym,Fp]
theorem aj6 {F:Fit} {o:Obj} (h:oS F o):ro (λb=>b) o=o:=by
 cases o with
 |cells c e fr=>simp only [ro];rw [mR]
 |number a l=>rfl
 |map es c=>
  simp only [ro];congr 1
  have :re (λb=>b)=id:=by
   funext e;unfold re;rw [Ot,Ot];rfl
  rw [this,Array.map_id]
 |stringIter _ _=>rfl
 |mapIter m _ _ _=>cases m<;>rfl
 |loop l=>simp only [ro];rw [mR]
 |deferred ds=>rcases h with rfl|rfl<;>rfl
 |_=>exact h.elim
theorem TU (rd:Nat->Prop) (W:World) (τ:Nat->Question->Nat) (b:Nat) {o:Obj} (h:(lw rd W τ).heap[b]?=some o):∃o',W.heap[b]?=some o'∧((rd b∧o=XN o')∨(¬rd b∧o=o')):=by
 classical
 unfold lw at h;simp only [Array.getElem?_mapIdx] at h;cases hb:W.heap[b]? with
 |none=>rw [hb] at h;cases h
 |some o'=>
  rw [hb] at h;simp only [Option.map_some,Option.some.injEq] at h;refine ⟨o',rfl,?_⟩
  by_cases hr:rd b
  ·rw [if_pos hr] at h;exact .inl ⟨hr,h.symm⟩
  ·rw [if_neg hr] at h;exact .inr ⟨hr,h.symm⟩
theorem nE (rd:Nat->Prop) (W:World) (τ:Nat->Question->Nat):(lw rd W τ).heap.size=W.heap.size:=by
 unfold lw;simp
section
variable {P Q:Program} {S V:FuncId->Bool} {cd:Code->Bool} {main:Bool} {Z:eG} {L cK:Nat->Prop} {W0:World} {A:Nat->Bool} {R:Value->World->Prop}
noncomputable abbrev Q6 (L cK:Nat->Prop) (W0:World) (A:Nat->Bool):PT:=⟨lw L W0 W0.tape,W0, λb=>b,L,cK,A⟩
structure Shut (S V:FuncId->Bool) (cd:Code->Bool) (L:Nat->Prop) (W0:World) (A:Nat->Bool):Prop where
 own:∀b o,A b=true->¬L b->W0.heap[b]?=some o->oS (FA S V cd (Bd A W0.heap.size)) o
 ro:∀b o,A b=true->L b->W0.heap[b]?=some o->∃c e fr,o= .cells c e fr∧VS (FA S V cd (Bd A W0.heap.size)) c
structure Ready (P:Program) (S V:FuncId->Bool) (cd:Code->Bool) (Z:eG) (L cK:Nat->Prop) (W0:World) (A:Nat->Bool):Prop where
 good:∀A:Nat->Bool,lY P (FA S V cd A)
 zeros:iF P=true
 jy:P.globals.size<W0.heap.size
 a0:∀b,b<W0.heap.size->A b=true->(cK b∧¬L b)∨(L b∧(cK b∨Z.ro b))
 af:∀b,W0.heap.size<=b->A b=true
 own:∀b,cK b->b<W0.heap.size∧¬Z.sy b∧¬Z.ro b
 ro:∀b,Z.ro b->b<W0.heap.size
 sy:∀b,Z.sy b->b<W0.heap.size
 cl:∀b i,Z.cl b i->Z.sy b
 lL:∀b,L b->b<W0.heap.size∧(Z.ro b∨cK b)
 nm:¬Z.mute
theorem Ready.ground (r:Ready P S V cd Z L cK W0 A):Ground P S V cd Z (Q6 L cK W0 A):=by
 have hsz:=nE L W0 W0.tape
 exact ⟨r.good,r.zeros,by show _<(lw L W0 W0.tape).heap.size;rw [hsz];exact r.jy, λb _=>rfl, λb hb=>by have hb:b<(lw L W0 W0.tape).heap.size:=hb;rw [hsz] at hb;exact hb, λa b _ _ _ h=>h, λ_ _=>rfl, λb h=>(by cases h), λb h=>(by cases h), λb h=>(by cases h),
  λb hb hA=>by
   have hb:b<(lw L W0 W0.tape).heap.size:=hb;rw [hsz] at hb;rcases r.a0 b hb hA with h|h
   ·exact .inl h.1
   ·exact h.2, λb hb=>by have hb:(lw L W0 W0.tape).heap.size<=b:=hb;rw [hsz] at hb;exact r.af b hb,r.own,r.ro,r.sy,r.cl,r.lL,r.nm⟩
theorem Ready.wr (r:Ready P S V cd Z L cK W0 A) (hs:Shut S V cd L W0 A):WR (FA S V cd (Bd A (lw L W0 W0.tape).heap.size)) (λb=>b) (lw L W0 W0.tape) W0:=by
 have hsz:=nE L W0 W0.tape;refine ⟨λb hb _=>by rw [hsz] at hb;exact hb, λb o hb ho=>?_⟩;have hb:Bd A (lw L W0 W0.tape).heap.size b=true:=hb;rw [hsz] at hb ⊢;obtain ⟨hA,hlt⟩:=fB.1 hb;obtain ⟨o',ho',hor⟩:=TU _ _ _ _ ho;rcases hor with ⟨hr,rfl⟩|⟨hr,rfl⟩
 ·obtain ⟨c,e,fr,rfl,hc⟩:=hs.ro b o' hA hr ho';exact .inr (.inl ⟨rfl,c,e,(0,c.size),fr,rfl,hc,by rw [ho',mR], λi hi _ _=>⟨aL _,hi⟩⟩)
 ·have hoS:=hs.own b o hA hr ho';cases hc:isCells o with
  |false=>exact .inl ⟨rfl,hoS,hc,by rw [ho',aj6 hoS]⟩
  |true=>
   cases o with
   |cells c e fr=>exact .inr (.inl ⟨rfl,c,e,fr,fr,rfl,hoS,by rw [ho',mR], λi _ h1 h2=>⟨h1,h2⟩⟩)
   |_=>cases hc
theorem Ready.lk (r:Ready P S V cd Z L cK W0 A) (hs:Shut S V cd L W0 A) (b:Nat) (o:Obj) (hA:A b=true) (ho:(lw L W0 W0.tape).heap[b]?=some o) (hl:¬jw o):cK b∧¬L b:=by
 obtain ⟨o',ho',hor⟩:=TU _ _ _ _ ho;have hlt:=(aa.1 ho').1;rcases hor with ⟨hr,rfl⟩|⟨hr,rfl⟩
 ·obtain ⟨c,e,fr,rfl,hc⟩:=hs.ro b o' hA hr ho';exact absurd ⟨c,e,(0,c.size),rfl, λi hi=>⟨aL _,hi⟩⟩ hl
 ·rcases r.a0 b hlt hA with h|h
  ·exact h
  ·exact absurd h.1 hr
theorem Wu {Stop:(Nat->Prop)->Goroutine->World->Prop} (hQ:Alike P Q) (hSQ:∀g,S g=true->Q.funcs[g]?=P.funcs[g]?) (r:Ready P S V cd Z L cK W0 A) (hs:Shut S V cd L W0 A) {g:FuncId} (hg:S g=true) {args:Array Value} (ha:VS (FA S V cd (Bd A W0.heap.size)) args)
 (hcon:∀τ,Calls P g args (lw L W0 τ) λe w'=>∃v,e= .returned v∧R v w') {c:Frame} {K':List Frame}
 (hret:∀v w' f' own' W',R v w'->IW S V cd Z (Q6 L cK W0 A) v w' f' own' W'->Gw Q main Z Stop own' (G (c.finish (rv f' v)) K') W'):
 Gw Q main Z Stop cK (G (Frame.enter Q g args .normal) (c::K')) W0:=by
 have hsz:=nE L W0 W0.tape
 exact GI (D:=Q6 L cK W0 A) (δ:=Unit) (Stop:= λ_=>Stop) hQ r.ground hg (hSQ g hg) (args:=args) (by show VS (FA S V cd (Bd A (lw L W0 W0.tape).heap.size)) args;rw [hsz];exact ha) (mR args).symm (r.wr hs) (r.lk hs) hcon () (PV hSQ)
  λhc _ _ h hf=>h.back hQ r.ground hc hf λ_=>hret
end
end Par
end
section
namespace Par
open Go Go.Conc Go.ConcM
section
variable [Sh]
variable {P Q:Program} {S V:FuncId->Bool} {cd:Code->Bool} {main:Bool} {Z:eG} {δ:Type} {Stop:δ->(Nat->Prop)->Goroutine->World->Prop} {D:PT} {K:List Frame} {eF:Frame} {R:Value->World->Prop} {T:Frame->World->Prop}
def CS (P Q:Program) (S:FuncId->Bool):Prop:=∀g,S g=true->Q.funcs[g]?≠P.funcs[g]?->∀as cs w,∃o w1,step P (lone (Frame.enter P g as .normal) cs w)= .ended o w1
theorem I9 {q:FuncId} {fn:Func} {why:String} (h:P.funcs[q]?=some fn) (hb:fn.body=some (.refuse why)) (hq:∀g,S g=true->Q.funcs[g]?≠P.funcs[g]?->g=q):CS P Q S:= λg hg hne as cs w=>by
 obtain rfl:=hq g hg hne
 have key:∃o,stepG P true (G (Frame.enter P g as .normal) cs) w= .ended o w #[]:=by
  unfold stepG G;simp [Frame.enter,h,hb,stepG.exec]
 obtain ⟨o,e⟩:=key;exact ⟨o,w,sM e⟩
def Hit (P:Program) (w0:World) (eF:Frame) (T:Frame->World->Prop):Prop:=
 ∀τ,∃n fr' w',T fr' w'∧runN P n (lone eF [Par.stk] (w0.tp τ))= .next (lone fr' [Par.stk] w')
theorem M8 (hh:CS P Q S) (hcon:Va P D.w0 eF R):Past P Q S V cd main Z Stop D K eF:= λt s h=>by
 exfalso;obtain ⟨g,as,hg,_,hup,hfr,hne,_⟩:=h.ent;obtain ⟨n,v,w',fr',h1,h2,h3⟩:=hcon s.w.tape;have hrun:=h.run s.w.tape λ_ _ _=>rfl
 obtain ⟨k,rfl⟩:=ahead hrun (λhf=>hup hf.1) h2 h3;obtain ⟨o,w1,he⟩:=hh g hg hne as (s.up++ [Par.stk]) (s.w.tp s.w.tape);rw [hfr] at hrun;rw [Nat.add_assoc,Nat.add_comm 1 k,mM,hrun] at h2;dsimp only at h2;rw [runN_ended k he] at h2;cases h2
def Dry (P:Program) (w0:World) (eF:Frame) (T:Frame->World->Prop) (t:Nat) (s:St δ):Prop:=
 ∀τ:Nat->Question->Nat,(∀j q,j<s.w.drawn->τ j q=s.w.tape j q)->∀n,n<=t->∀fr' w',runN P n (lone eF [Par.stk] (w0.tp τ))= .next (lone fr' [Par.stk] w')->¬T fr' w'
theorem seg (hQ:Alike P Q) (G0:Ground P S V cd Z D) (hT:∀fr w,T fr w->fr.mode= .run) (hit:Hit P D.w0 eF T) (hh:CS P Q S) {s0:St δ} (h0:Inv P Q S V cd main Z Stop D K eF 0 s0)
 (hstop:∀t s τ,Da P S V cd Z D eF t s->s.up= []->T s.fr (s.w.tp τ)->Gw Q main Z (Stop s.d) s.own (G (iy s.f s.fr) K) s.W):False:=by
 classical
 have Yc:∀t s,Inv P Q S V cd main Z Stop D K eF t s->∀τ:Nat->Question->Nat,(∀j q,j<s.w.drawn->τ j q=s.w.tape j q)->∀fr' w',runN P t (lone eF [Par.stk] (D.w0.tp τ))= .next (lone fr' [Par.stk] w')->¬T fr' w':=by
  intro t s h τ ag fr' w' hr hT';rw [h.run τ ag] at hr;obtain ⟨e1,e2,e3⟩:=sK (Stepped.next.inj hr);subst e1 e3
  have hup:s.up= []:=by
   have :=congrArg List.length e2;simpa using this
  refine h.ngw ?_
  rw [hup];exact hstop t s τ h.toDa hup hT'
 have far:∀(t:Nat) (s:St δ),Dry P D.w0 eF T t s->∀τ:Nat->Question->Nat,(∀j q,j<s.w.drawn->τ j q=s.w.tape j q)->∃k fr' w',T fr' w'∧runN P (t+1+k) (lone eF [Par.stk] (D.w0.tp τ))= .next (lone fr' [Par.stk] w'):=by
  intro t s hd τ ag;obtain ⟨n,fr',w',hT',hn⟩:=hit τ;rcases aO t n with hlt|hge
  ·obtain ⟨k,rfl⟩:=Nat.exists_eq_add_of_lt hlt;exact ⟨k,fr',w',hT',by rw [Nat.add_right_comm];exact hn⟩
  ·exact absurd hT' (hd τ ag n hge fr' w' hn)
 have nx:∀(x:{ p:Nat×St δ // Inv P Q S V cd main Z Stop D K eF p.1 p.2∧Dry P D.w0 eF T p.1 p.2 }),∃y:{ p:Nat×St δ // Inv P Q S V cd main Z Stop D K eF p.1 p.2∧Dry P D.w0 eF T p.1 p.2 },y.1.1=x.1.1+1∧x.1.2.w.drawn<=y.1.2.w.drawn∧∀j q,j<x.1.2.w.drawn->y.1.2.w.tape j q=x.1.2.w.tape j q:=by
  rintro ⟨⟨t,s⟩,h,hd⟩;dsimp only at h hd
  have hnf:¬Fin s.fr s.up:=by
   rintro ⟨hu,hm,hde⟩;obtain ⟨k,fr',w',_,hn⟩:=far t s hd s.w.tape λ_ _ _=>rfl
   have hrun:=h.run s.w.tape λ_ _ _=>rfl
   have hfr:=h.stk.top;obtain ⟨fn,c,hfn,_⟩:=(G0.good _).fit.body s.fr.fn hfr.fn;rw [Nat.add_assoc,Nat.add_comm 1 k,mM,hrun,hu] at hn;exact yl ⟨fn,hfn⟩ hfr.kind hm hde _ k fr' [] w' hn
  obtain ⟨s',h1,h2,h3⟩:=h.XQ hQ G0 (λτ ag=>by
   obtain ⟨k,fr',w',hT',hn⟩:=far t s hd τ ag;exact ⟨k,fr',w',⟨λch e=>(by rw [hT _ _ hT'] at e;cases e),hn⟩⟩) hnf
  rcases h1 with h1|h1
  ·refine ⟨⟨(t+1,s'),h1, λτ ag n hn fr' w' hr=>?_⟩,rfl,h2,h3⟩;rcases aO t n with hlt|hge
   ·obtain rfl:n=t+1:=Nat.le_antisymm hn hlt;exact Yc _ _ h1 τ ag fr' w' hr
   ·exact hd τ (λj q hj=>(ag j q (ak hj h2)).trans (h3 j q hj)) n hge fr' w' hr
  ·exfalso;obtain ⟨g,as,hg,_,hup,hfr,hne,_⟩:=h1.ent;obtain ⟨k,fr',w',_,hn⟩:=far t s hd s'.w.tape h3;have hrun:=h1.run s'.w.tape λ_ _ _=>rfl
   rw [mM,hrun] at hn;dsimp only at hn;cases k with
   |zero=>
    simp only [runN] at hn;have :=congrArg List.length (sK (Stepped.next.inj hn)).2.1;simp at this;exact hup this
   |succ k=>
    obtain ⟨o,w1,he⟩:=hh g hg hne as (s'.up++ [Par.stk]) (s'.w.tp s'.w.tape);rw [hfr,runN_ended k he] at hn;cases hn
 let seq:(i:Nat)->{ p:Nat×St δ // Inv P Q S V cd main Z Stop D K eF p.1 p.2∧Dry P D.w0 eF T p.1 p.2 }:= λi=>Nat.rec ⟨(0,s0),h0, λτ ag n hn fr' w' hr=>by
  obtain rfl:n=0:=Nat.le_zero.1 hn;exact Yc _ _ h0 τ ag fr' w' hr⟩ (λ_ x=>(nx x).choose) i
 have hlt:∀i,(seq (i+1)).1.1=(seq i).1.1+1:= λi=>(nx (seq i)).choose_spec.1
 have hd:∀i,(seq i).1.2.w.drawn<=(seq (i+1)).1.2.w.drawn:= λi=>(nx (seq i)).choose_spec.2.1
 have ht:∀i j q,j<(seq i).1.2.w.drawn->(seq (i+1)).1.2.w.tape j q=(seq i).1.2.w.tape j q:= λi=>(nx (seq i)).choose_spec.2.2
 have hge:∀i,(seq i).1.1=i:=by
  intro i
  induction i with
  |zero=>rfl
  |succ i ih=>rw [hlt,ih]
 have hdd:∀d t,(seq t).1.2.w.drawn<=(seq (t+d)).1.2.w.drawn:=by
  intro d
  induction d with
  |zero=>intro t;exact aj _
  |succ d ih=>intro t;exact aC (ih t) (hd (t+d))
 have htt:∀d t j q,j<(seq t).1.2.w.drawn->(seq (t+d)).1.2.w.tape j q=(seq t).1.2.w.tape j q:=by
  intro d
  induction d with
  |zero=>intro t j q _;rfl
  |succ d ih=>
   intro t j q hj;exact (ht (t+d) j q (ak hj (hdd d t))).trans (ih t j q hj)
 let τ:Nat->Question->Nat:= λj q=>if h:∃t,j<(seq t).1.2.w.drawn then (seq h.choose).1.2.w.tape j q else 0
 have Kn:∀t j q,j<(seq t).1.2.w.drawn->τ j q=(seq t).1.2.w.tape j q:=by
  intro t j q hj;have h:∃t,j<(seq t).1.2.w.drawn:=⟨t,hj⟩;have e:τ j q=(seq h.choose).1.2.w.tape j q:=dif_pos h;rw [e];have hc:=h.choose_spec;generalize h.choose=u at hc;rcases Nat.le_total t u with hle|hle
  ·obtain ⟨d,rfl⟩:=Nat.exists_eq_add_of_le hle;exact htt d t j q hj
  ·obtain ⟨d,rfl⟩:=Nat.exists_eq_add_of_le hle;exact (htt d u j q hc).symm
 obtain ⟨n,fr',w',hT',hn⟩:=hit τ;exact (seq n).2.2 τ (λj q hj=>Kn n j q hj) n (Nat.le_of_eq (hge n).symm) fr' w' hn hT'
theorem G9 (G0:Ground P S V cd Z D) (hf:kX P (FA S V cd (Bd D.A D.w0.heap.size)) eF) (hm:eF.mode= .run) (hro:eF.roundOf=none)
 (hwr:WR (FA S V cd (Bd D.A D.w0.heap.size)) D.f0 D.w0 D.W0) (hlk:∀(b:Nat) (o:Obj),D.A b=true->D.w0.heap[b]?=some o->¬jw o->D.cK (D.f0 b)∧¬D.L (D.f0 b)) {d0:δ}
 (hn:¬Gw Q main Z (Stop d0) D.cK (G (iy D.f0 eF) K) D.W0):Inv P Q S V cd main Z Stop D K eF 0 ⟨eF,[],D.w0,D.f0,D.cK,D.W0,d0⟩:=
 ⟨⟨⟨hf,hro⟩,.inl hm,hwr,aj _, λb _=>rfl,G0.YT, λb h1 h2=>absurd h1 (Nat.not_le.2 h2), λb c h1 h2 h3=>absurd h1 (Nat.not_le.2 (Nat.lt_trans h2 h3)),G0.a0,hlk, λb hb=>hb, λb hb=>.inl hb, λb hb=>(G0.own b hb).1,Since.refl Z D.W0, λb _=>rfl, λτ _=>rfl⟩,hn⟩
theorem Da.aj7 {t:Nat} {s:St δ} (h:Da P S V cd Z D eF t s) (τ:Nat->Question->Nat):IW S V cd Z D undef (s.w.tp τ) s.f s.own s.W:=
 ⟨ag5 h.wr,rX,h.n0,h.fid,h.FP,h.XO,h.GH,h.img,h.lk,h.owns,h.Q0,h.XP,h.since,h.kept⟩
end
section
attribute [local instance] noSh
variable {P Q:Program} {S V:FuncId->Bool} {cd:Code->Bool} {main:Bool} {Z:eG} {L cK:Nat->Prop} {W0:World} {A:Nat->Bool} {R:Value->World->Prop} {T:Frame->World->Prop}
theorem aj8 (d:Deferred):rd (λb=>b) d=d:=by
 obtain ⟨t,a⟩:=d;unfold rd;simp only [mR];cases t<;>try simp only [mR]
 ·rename_i fn cap;cases fn<;>rfl
theorem ZE (i:Item):tX (λb=>b) i=i:=by cases i<;>rfl
theorem TV (fr:Frame):iy (λb=>b) fr=fr:=by
 obtain ⟨a,b,c,d,e,f,g⟩:=fr;unfold iy;simp only [mR];congr 1
 ·rw [show tX (λb=>b)=id from funext ZE,List.map_id]
 ·rw [show rd (λb=>b)=id from funext aj8,List.map_id]
 ·simp
theorem ZF {Stop:(Nat->Prop)->Goroutine->World->Prop} {eF:Frame} {K:List Frame} (hQ:Alike P Q) (hh:CS P Q S) (r:Ready P S V cd Z L cK W0 A) (hs:Shut S V cd L W0 A) (hf:kX P (FA S V cd (Bd A W0.heap.size)) eF) (hm:eF.mode= .run) (hro:eF.roundOf=none) (hT:∀fr w,T fr w->fr.mode= .run)
 (hit:∀τ,∃n fr' w',T fr' w'∧runN P n (lone eF [Par.stk] (lw L W0 τ))= .next (lone fr' [Par.stk] w'))
 (hret:∀fr w f own' W',T fr w->kX P (FA S V cd (Bd A w.heap.size)) fr->IW S V cd Z (Q6 L cK W0 A) undef w f own' W'->Gw Q main Z Stop own' (G (iy f fr) K) W'):
 Gw Q main Z Stop cK (G eF K) W0:=by
 have hsz:=nE L W0 W0.tape;apply aM;intro hn
 refine seg (D:=Q6 L cK W0 A) (δ:=Unit) (Stop:= λ_=>Stop) (main:=main) (K:=K) (eF:=eF) (T:=T) hQ r.ground hT hit hh (G9 (d0:=()) r.ground (by show kX P (FA S V cd (Bd A (lw L W0 W0.tape).heap.size)) eF;rw [hsz];exact hf) hm hro (r.wr hs) (r.lk hs) (by show ¬Gw Q main Z Stop cK (G (iy (λb=>b) eF) K) W0;rw [TV];exact hn))
  λt s τ h hup hT'=>hret s.fr (s.w.tp τ) s.f s.own s.W hT' h.stk.top (h.aj7 τ)
theorem Wv {Stop:(Nat->Prop)->Goroutine->World->Prop} {eF c:Frame} {K':List Frame} (hQ:Alike P Q) (hh:CS P Q S) (r:Ready P S V cd Z L cK W0 A) (hs:Shut S V cd L W0 A) (hf:kX P (FA S V cd (Bd A W0.heap.size)) eF) (hm:eF.mode= .run) (hro:eF.roundOf=none)
 (hcon:∀τ,∃n v w' fr',R v w'∧runN P n (lone eF [Par.stk] (lw L W0 τ))= .next (lone fr' [Par.stk] w')∧fr'.leaving P w' (.returned v))
 (hret:∀v w' f' own' W',R v w'->IW S V cd Z (Q6 L cK W0 A) v w' f' own' W'->Gw Q main Z Stop own' (G (c.finish (rv f' v)) K') W'):
 Gw Q main Z Stop cK (G eF (c::K')) W0:=by
 have hsz:=nE L W0 W0.tape;apply aM;intro hn;have hc:Va P (Q6 L cK W0 A).w0 eF R:=hcon
 exact ag9 (D:=Q6 L cK W0 A) (δ:=Unit) (Stop:= λ_=>Stop) (main:=main) (K:=c::K') (eF:=eF) (R:=R) hQ r.ground hc
  (G9 (d0:=()) r.ground (by show kX P (FA S V cd (Bd A (lw L W0 W0.tape).heap.size)) eF;rw [hsz];exact hf) hm hro (r.wr hs) (r.lk hs) (by show ¬Gw Q main Z Stop cK (G (iy (λb=>b) eF) (c::K')) W0;rw [TV];exact hn))
  (M8 hh hc) λh hfin=>h.back hQ r.ground hc hfin λ_=>hret
end
end Par
end
section
namespace Par
open Go Go.Conc Go.ConcM
variable [Sh]
section
variable {P:Program} {S V:FuncId->Bool} {A A':Nat->Bool} {c1 c2:Code->Bool}
theorem Bf:dD P ⟨S,A,c1,V⟩=dD P ⟨S,A',c2,V⟩:=by
 funext x;cases x<;>rfl
theorem TW:wB P ⟨S,A,c1,V⟩=wB P ⟨S,A',c2,V⟩:=by
 funext c;unfold wB;rw [Bf (A':=A') (c2:=c2)];cases c.callee<;>rfl
theorem ZG:jF P ⟨S,A,c1,V⟩=jF P ⟨S,A',c2,V⟩:=by
 funext o;unfold jF;rw [Bf (A':=A') (c2:=c2),TW (A':=A') (c2:=c2)];cases o<;>try rfl
 rename_i fn a b;cases fn<;>first |rfl|simp
theorem TY:codeOk P ⟨S,A,c1,V⟩=codeOk P ⟨S,A',c2,V⟩:=by
 funext c
 induction c with
 |region _ ops _=>unfold codeOk;rw [ZG (A':=A') (c2:=c2)]
 |seq a b ha hb=>unfold codeOk;rw [ha,hb]
 |cond x a b ha hb=>unfold codeOk;rw [Bf (A':=A') (c2:=c2),ha,hb]
 |block _ c h=>unfold codeOk;exact h
 |loop c h=>unfold codeOk;exact h
 |scope c h=>unfold codeOk;exact h
 |rangeFunc x _ a b ha hb=>unfold codeOk;rw [Bf (A':=A') (c2:=c2),ha,hb]
 |_=>rfl
def He (P:Program) (S V:FuncId->Bool) (g:FuncId):Bool:=
 match P.funcs[g]? with
 |none=>false
 |some fn=>match fn.body with
  |none=>false
  |some c=>!(fn.name== "runtime.NumGoroutine")&&codeOk P ⟨S, λ_=>false, λ_=>false,V⟩ c
def dM (P:Program) (S V:FuncId->Bool):Code->Bool:=codeOk P ⟨S, λ_=>false, λ_=>false,V⟩
theorem Ou (h:∀g,S g=true->He P S V g=true) (hV:∀g,V g=true->S g=true) (A:Nat->Bool):lY P (FA S V (dM P S V) A):=by
 refine ⟨⟨λg hg=>?_,hV⟩, λc=>?_⟩
 ·have :=h g hg;unfold He at this;split at this
  ·cases this
  ·rename_i fn hfn;split at this
   ·cases this
   ·rename_i c hc;rw [aR] at this;exact ⟨fn,c,hfn,hc,by simpa using this.1,this.2⟩
 ·exact congrFun TY c
end
end Par
end
section
namespace Par
open Go Go.Conc Go.ConcM
attribute [local instance] noSh
theorem Ov (L:Nat->Prop) (W:World) (τ:Nat->Question->Nat) (b o:Nat):(lw L W τ).cell? ⟨b,o,none⟩=W.cell? ⟨b,o,none⟩:=by
 classical
 unfold World.cell? lw;simp only [Array.getElem?_mapIdx];cases hb:W.heap[b]? with
 |none=>rfl
 |some x=>
  simp only [Option.map_some]
  by_cases h:L b
  ·rw [if_pos h];cases x<;>rfl
  ·rw [if_neg h]
theorem Hf {f:Nat->Nat} {c:Array Value} (h:∀x∈c,dJ x=true):c.map (rv f)=c:=by
 have :c.map (rv f)=c.map id:=Array.map_congr_left λx hx=>(jd (F:=⟨λ_=>false, λ_=>false, λ_=>false, λ_=>false⟩) (h x hx)).1
 rw [this,Array.map_id]
structure Kept (Z:eG) (own:Nat->Prop) (W:World) (own':Nat->Prop) (W':World):Prop where
 rely:bZ Z own W W'
 sub:∀b,own b->own' b
 new:∀b,own' b->own b∨(W.heap.size<=b∧b<W'.heap.size)
structure Made (n:Nat) (w':World) (f':Nat->Nat) (own':Nat->Prop) (W':World):Prop where
 old:∀b,b<n->f' b=b
 ge:∀b,n<=b->b<w'.heap.size->n<=f' b∧f' b<W'.heap.size∧own' (f' b)
 blk:∀b c e fr,n<=b->w'.heap[b]?=some (.cells c e fr)->∃fr',W'.heap[f' b]?=some (.cells (c.map (rv f')) e fr')
 cell:∀b o v,n<=b->w'.cell? ⟨b,o,none⟩=some v->W'.cell? ⟨f' b,o,none⟩=some (rv f' v)
 frz:∀b o,n<=b->(∃v,w'.cell? ⟨b,o,none⟩=some v)->w'.frozen? ⟨b,o,none⟩=false->W'.frozen? ⟨f' b,o,none⟩=false
section
variable {P:Program} {S:FuncId->Bool} {main:Bool} {Z:eG} {own:Nat->Prop} {W:World} {As:Nat->Prop} {R:Value->World->Prop}
open Classical in
noncomputable def iU (As:Nat->Prop) (n:Nat):Nat->Bool:= λb=>decide (As b∨n<=b)
def OnA (P:Program) (S:FuncId->Bool) (As:Nat->Prop) (n:Nat) (c:Array Value):Prop:=VS (FA S S (dM P S S) (Bd (iU As n) n)) c
theorem vF {Stop:(Nat->Prop)->Goroutine->World->Prop} (good:∀A:Nat->Bool,lY P (FA S S (dM P S S) A)) (zeros:iF P=true) (jy:P.globals.size<W.heap.size)
 (hAs:∀b,As b->own b∨Z.ro b) (hin:∀b o,As b->W.heap[b]?=some o->∃c e fr,o= .cells c e fr∧OnA P S As W.heap.size c)
 (hown:∀b,own b->b<W.heap.size∧¬Z.sy b∧¬Z.ro b) (hro:∀b,Z.ro b->b<W.heap.size) (hsy:∀b,Z.sy b->b<W.heap.size) (hcl:∀b i,Z.cl b i->Z.sy b) (hnm:¬Z.mute)
 {g:FuncId} (hg:S g=true) {args:Array Value} (ha:OnA P S As W.heap.size args)
 (hcon:∀w,w.heap.size=W.heap.size->(∀b o,w.cell? ⟨b,o,none⟩=W.cell? ⟨b,o,none⟩)->Calls P g args w λe w'=>∃v,e= .returned v∧R v w') {c:Frame} {K':List Frame}
 (hret:∀v w' f' own' W',R v w'->Kept Z own W own' W'->Made W.heap.size w' f' own' W'->Gw P main Z Stop own' (G (c.finish (rv f' v)) K') W'):
 Gw P main Z Stop own (G (Frame.enter P g args .normal) (c::K')) W:=by
 classical
 have hlt:∀b,As b->b<W.heap.size:= λb hb=>(hAs b hb).elim (λh=>(hown b h).1) (hro b)
 have hA1:∀b,b<W.heap.size->iU As W.heap.size b=true->As b:= λb hb h=>by
  have :=of_decide_eq_true h;exact this.resolve_right (by omega)
 refine Wu (Q:=P) (S:=S) (V:=S) (cd:=dM P S S) (L:= λb=>own b∨Z.ro b) (cK:=own) (A:=iU As W.heap.size) (R:=R) (Alike.refl P) (λ_ _=>rfl)
  ⟨good,zeros,jy, λb hb hA=>.inr ⟨hAs b (hA1 b hb hA),hAs b (hA1 b hb hA)⟩, λb hb=>decide_eq_true (.inr hb),hown,hro,hsy,hcl, λb hb=>hb.elim (λh=>⟨(hown b h).1,.inr h⟩) (λh=>⟨hro b h,.inl h⟩),hnm⟩
  ⟨λb o hA hL ho=>?_, λb o hA hL ho=>?_⟩ hg ha (λτ=>hcon _ (nE _ _ _) λb o=>Ov _ _ _ b o) λv w' f' own' W' hR hb=>?_
 ·exfalso;have hb:=(aa.1 ho).1;exact hL (hAs b (hA1 b hb hA))
 ·have hb:=(aa.1 ho).1;obtain ⟨c,e,fr,h1,h2⟩:=hin b o (hA1 b hb hA) ho;exact ⟨c,e,fr,h1,h2⟩
 ·have hsz:=nE (λb=>own b∨Z.ro b) W W.tape;have hsz':(Q6 (λb=>own b∨Z.ro b) own W (iU As W.heap.size)).w0.heap.size=W.heap.size:=hsz;have hbd:∀b,W.heap.size<=b->b<w'.heap.size->Bd (iU As W.heap.size) w'.heap.size b=true:= λb h1 h2=>fB.2 ⟨decide_eq_true (.inr h1),h2⟩
  refine hret v w' f' own' W' hR ⟨⟨hb.since.tape,hb.since.out,hb.since.os,hb.since.size, λb h=>hb.kept b (.inl h), λb h=>hb.kept b (.inr h),hb.since.sy,hb.since.cl⟩,hb.owns, λb h=>(hb.Q0 b h).imp id λh2=>⟨h2,hb.XP b h⟩⟩
   ⟨λb h=>hb.fid b (by rw [hsz'];exact h), λb h1 h2=>?_, λb c e fr h1 hx=>?_, λb o v h1 hc=>?_, λb o h1 hc hf=>?_⟩
  ·have e1:=hb.XO b (by rw [hsz'];exact h1) h2;refine ⟨e1,hb.FP b h2,(hb.img b h2 (decide_eq_true (.inr h1))).resolve_right λx=>?_⟩;have :=hro _ x;have e1:W.heap.size<=f' b:=e1;omega
  ·have h2:=(aa.1 hx).1;rcases hb.wr.blk b _ (hbd b h1 h2) hx with ⟨_,_,k3,_⟩|⟨_,c',e',tH,fr',k1,k2,k3,_⟩|⟨k1,_⟩
   ·cases k3
   ·cases k1;exact ⟨fr',k3⟩
   ·cases k1
  ·unfold World.cell? at hc;cases hx:w'.heap[b]? with
   |none=>simp only [hx] at hc;cases hc
   |some x=>
    have h2:=(aa.1 hx).1;simp only [hx] at hc;rcases hb.wr.blk b x (hbd b h1 h2) hx with ⟨_,_,k3,k4⟩|⟨_,c,e,fr,fr',rfl,k2,k3,_⟩|⟨k1,_⟩
    ·cases x<;>first |(cases hc;done)|skip
     cases k3
    ·unfold World.cell?;simp only [k3];have hc:c[o]?=some v:=hc
     show (c.map (rv f'))[o]?=_
     rw [Array.getElem?_map,hc];rfl
    ·cases k1
  ·obtain ⟨v,hc⟩:=hc;unfold World.cell? at hc;unfold World.frozen? at hf ⊢;cases hx:w'.heap[b]? with
   |none=>simp only [hx] at hc;cases hc
   |some x=>
    have h2:=(aa.1 hx).1;simp only [hx] at hc hf;rcases hb.wr.blk b x (hbd b h1 h2) hx with ⟨_,_,k3,k4⟩|⟨_,c,e,fr,fr',rfl,k2,k3,k4⟩|⟨k1,_⟩
    ·cases x<;>first |(cases hc;done)|skip
     cases k3
    ·simp only [k3];have hc:c[o]?=some v:=hc
     have ho:=(aa.1 hc).1;have k5:=k4 o ho;simp only [Bool.and_eq_false_iff,decide_eq_false_iff_not] at hf ⊢
     by_cases hq:fr'.1<=o∧o<fr'.2
     ·have :=k5 hq.1 hq.2;omega
     ·omega
    ·cases k1
end
end Par
end
section
namespace Par
open Go Go.Conc Go.ConcM
attribute [local instance] noSh
theorem Ww (L:Nat->Prop) (W:World) (τ:Nat->Question->Nat) (b:Nat) (h:¬L b):(lw L W τ).heap[b]?=W.heap[b]?:=by
 classical
 unfold lw;simp only [Array.getElem?_mapIdx];cases hb:W.heap[b]? with
 |none=>rfl
 |some x=>simp only [Option.map_some,if_neg h]
theorem Qm {P:Program} {f:FuncId} {fn:Func} {c:Code} {a:Act} {w:World} {R:Value->World->Prop} (hf:P.funcs[f]?=some fn) (h:c.wp P (bodyPost P fn λe w'=>∃v,e= .returned v∧R v w') a w) (cs:List Frame):
 ∃n v w' fr',R v w'∧runN P n (lone ((base f).at a [.code c]) cs w)= .next (lone fr' cs w')∧fr'.leaving P w' (.returned v):=by
 obtain ⟨e,a',w',hq,harr⟩:=h (base f) [] cs;cases e with
 |normal=>
  obtain ⟨hd,v,hr,v',e1,hR⟩:=hq;cases e1;obtain ⟨n,hn⟩:=Steps.trans harr (.one step_end);exact ⟨n,v,w',_,hR,hn,rfl,hd,rfl,fn,hf,hr⟩
 |ret=>
  obtain ⟨hd,v,hr,v',e1,hR⟩:=hq;cases e1;obtain ⟨todo,n,hn⟩:=harr;exact ⟨n,v,w',_,hR,hn,rfl,hd,rfl,fn,hf,hr⟩
 |panic chain=>obtain ⟨_,v,e1,_⟩:=hq;cases e1
 |exit id=>exact hq.elim
 |goto l=>exact hq.elim
 |outgrown=>obtain ⟨v,e1,_⟩:=hq;cases e1
structure aj9 (X:Nat->Prop) (Z:eG) (own:Nat->Prop) (W:World) (own':Nat->Prop) (W':World):Prop where
 tape:W'.tape=W.tape
 out:W'.output=W.output
 os:OsLater W.os W'.os
 size:W.heap.size<=W'.heap.size
 kept:∀b,own b∨Z.ro b->¬X b->W'.heap[b]?=W.heap[b]?
 sub:∀b,own b->own' b
 new:∀b,own' b->own b∨(W.heap.size<=b∧b<W'.heap.size)
 lt:∀b,own' b->b<W'.heap.size
section
variable {P Q:Program} {S:FuncId->Bool} {main:Bool} {Z:eG} {own X:Nat->Prop} {W:World} {As:Nat->Prop} {R:Value->World->Prop}
theorem Qn {Stop:(Nat->Prop)->Goroutine->World->Prop} (hQ:Alike P Q) (hh:CS P Q S) (good:∀A:Nat->Bool,lY P (FA S S (dM P S S) A)) (zeros:iF P=true) (jy:P.globals.size<W.heap.size)
 (hAs:∀b,As b->own b∨Z.ro b) (hX:∀b,X b->own b) (hin:∀b o,As b->W.heap[b]?=some o->∃c e fr,o= .cells c e fr∧OnA P S As W.heap.size c)
 (hown:∀b,own b->b<W.heap.size∧¬Z.sy b∧¬Z.ro b) (hro:∀b,Z.ro b->b<W.heap.size) (hsy:∀b,Z.sy b->b<W.heap.size) (hcl:∀b i,Z.cl b i->Z.sy b) (hnm:¬Z.mute)
 {g:FuncId} (hg:S g=true) {fn:Func} (hfn:P.funcs[g]?=some fn) {code:Code} (hc:dM P S S code=true) {a:Act} (hd:a.defers= []) (ha:OnA P S As W.heap.size a.tmps)
 (hcon:∀w,w.heap.size=W.heap.size->(∀b o,w.cell? ⟨b,o,none⟩=W.cell? ⟨b,o,none⟩)->(∀b,X b->w.heap[b]?=W.heap[b]?)->code.wp P (bodyPost P fn λe w'=>∃v,e= .returned v∧R v w') a w) {c:Frame} {K':List Frame}
 (hret:∀v w' f' own' W',R v w'->(∀b,b<W.heap.size->f' b=b)->aj9 X Z own W own' W'->Gw Q main Z Stop own' (G (c.finish (rv f' v)) K') W'):
 Gw Q main Z Stop own (G ((base g).at a [.code code]) (c::K')) W:=by
 classical
 have hlt:∀b,As b->b<W.heap.size:= λb hb=>(hAs b hb).elim (λh=>(hown b h).1) (hro b)
 have hA1:∀b,b<W.heap.size->iU As W.heap.size b=true->As b:= λb hb h=>by
  have :=of_decide_eq_true h;exact this.resolve_right (by omega)
 have aw0:∀b,Z.ro b->¬X b:= λb h1 h2=>(hown b (hX b h2)).2.2 h1
 refine Wv (P:=P) (Q:=Q) (S:=S) (V:=S) (cd:=dM P S S) (L:= λb=>(own b∨Z.ro b)∧¬X b) (cK:=own) (A:=iU As W.heap.size) (R:=R) hQ hh
  ⟨good,zeros,jy, λb hb hA=>?_, λb hb=>decide_eq_true (.inr hb),hown,hro,hsy,hcl, λb hb=>hb.1.elim (λh=>⟨(hown b h).1,.inr h⟩) (λh=>⟨hro b h,.inl h⟩),hnm⟩
  ⟨λb o hA hL ho=>?_, λb o hA hL ho=>?_⟩ ⟨hg,ha, λi hi=>?_, λd hd'=>?_,rfl, λl hl=>?_⟩ rfl rfl (λτ=>Qm hfn (hcon _ (nE _ _ _) (λb o=>Ov _ _ _ b o) λb hb=>Ww _ _ _ _ λh=>h.2 hb) _) λv w' f' own' W' hR hb=>?_
 ·by_cases hx:X b
  ·exact .inl ⟨hX b hx, λh=>h.2 hx⟩
  ·exact .inr ⟨⟨hAs b (hA1 b hb hA),hx⟩,hAs b (hA1 b hb hA)⟩
 ·have hb:=(aa.1 ho).1;obtain ⟨c,e,fr,rfl,h2⟩:=hin b o (hA1 b hb hA) ho;exact h2
 ·have hb:=(aa.1 ho).1;obtain ⟨c,e,fr,h1,h2⟩:=hin b o (hA1 b hb hA) ho;exact ⟨c,e,fr,h1,h2⟩
 ·have hi:i∈ [Item.code code]:=hi;rw [aB] at hi;subst hi;exact hc
 ·have hd':d∈a.defers:=hd';rw [hd] at hd';cases hd'
 ·cases hl
 ·have hsz:=nE (λb=>(own b∨Z.ro b)∧¬X b) W W.tape;have hsz':(Q6 (λb=>(own b∨Z.ro b)∧¬X b) own W (iU As W.heap.size)).w0.heap.size=W.heap.size:=hsz;exact hret v w' f' own' W' hR (λb h=>hb.fid b (by rw [hsz'];exact h)) ⟨hb.since.tape,hb.since.out,hb.since.os,hb.since.size, λb h1 h2=>hb.kept b ⟨h1,h2⟩,hb.owns, λb h=>(hb.Q0 b h).imp id λh2=>⟨h2,hb.XP b h⟩,hb.XP⟩
end
end Par
end
section
namespace Par
open Go Go.Conc Go.ConcM
def yF (P:Program) (b:Frame) (k:List Item) (cs:List Frame) (z:Code) (T:Act->World->Prop) (c:Code) (a:Act) (w:World):Prop:=
 ∃a' w',T a' w'∧Steps P (lone (b.at a (.code c::k)) cs w) (lone (b.at a' (.code z::k)) cs w')
theorem yF.here {P:Program} {b:Frame} {k:List Item} {cs:List Frame} {z:Code} {T:Act->World->Prop} {a:Act} {w:World} (h:T a w):yF P b k cs z T z a w:=⟨a,w,h,Steps.refl _ _⟩
theorem yF.seq {P:Program} {b:Frame} {k:List Item} {cs:List Frame} {z x y:Code} {T:Act->World->Prop} {a:Act} {w:World} (h:x.wp P (λe a w=>e= .normal∧yF P b k cs z T y a w) a w):yF P b k cs z T (.seq x y) a w:=by
 obtain ⟨e,a1,w1,⟨rfl,a2,w2,hT,hs⟩,harr⟩:=h b (.code y::k) cs;exact ⟨a2,w2,hT,Steps.trans (.head step_seq harr) hs⟩
end Par
end
