/- Part 21. -/
import Derived.Conc.Own3
import Derived.Test.YtnemnkmojiljmaaGreatB14
set_option maxRecDepth 100000
set_option maxHeartbeats 0
set_option linter.all false
namespace Par
open Go Go.Conc Go.ConcM
section
attribute [local instance] noSh
mutual
theorem Pp:∀v:Value,rv (λb=>b) v=v
 | .bool _=>by simp
 | .int _ _=>by simp
 | .float _ _=>by simp
 | .complex _ _ _=>by simp
 | .string _=>by simp
 | .pointer none=>by simp
 | .pointer (some a)=>by simp only [eX,ay];rfl
 | .slice none _ _=>by simp
 | .slice (some a) _ _=>by simp only [fT,ay];rfl
 | .map none=>by simp
 | .map (some r)=>by simp
 | .chan none=>by simp
 | .chan (some r)=>by simp
 | .func fn a b=>by
   rw [rv,GG a,GG b];cases fn<;>rfl
 | .nilFunc=>by simp
 | .iface t v=>by rw [rv,Pp v]
 | .nilIface=>by simp
 | .agg a=>by rw [rv,GG a]
 | .tuple a=>by rw [rv,GG a]
theorem GG:∀a:Array Value,OC (λb=>b) a=a
 |⟨l⟩=>by rw [OC,UH l]
theorem UH:∀l:List Value,Ku (λb=>b) l=l
 | []=>by rw [Ku]
 |v::l=>by rw [Ku,Pp v,UH l]
end
theorem oI (a:Array Value):a.map (rv λb=>b)=a:=by rw [<-Zq,GG]
theorem an9 {F:Fit} {o:Obj} (h:oS F o):ro (λb=>b) o=o:=by
 cases o with
 |cells c e fr=>simp only [ro];rw [oI]
 |number a l=>rfl
 |map es c=>
  simp only [ro];congr 1
  have :re (λb=>b)=id:=by
   funext e;unfold re;rw [Pp,Pp];rfl
  rw [this,Array.map_id]
 |stringIter _ _=>rfl
 |mapIter m _ _ _=>cases m<;>rfl
 |loop l=>simp only [ro];rw [oI]
 |deferred ds=>rcases h with rfl|rfl<;>rfl
 |_=>exact h.elim
theorem UI (rd:Nat->Prop) (W:World) (τ:Nat->Question->Nat) (b:Nat) {o:Obj} (h:(lw rd W τ).heap[b]?=some o):∃o',W.heap[b]?=some o'∧((rd b∧o=YV o')∨(¬rd b∧o=o')):=by
 classical
 unfold lw at h;simp only [Array.getElem?_mapIdx] at h;cases hb:W.heap[b]? with
 |none=>rw [hb] at h;cases h
 |some o'=>
  rw [hb] at h;simp only [ay,Option.some.injEq] at h;refine ⟨o',rfl,?_⟩
  by_cases hr:rd b
  ·rw [aj hr] at h;exact .inl ⟨hr,h.symm⟩
  ·rw [aa hr] at h;exact .inr ⟨hr,h.symm⟩
theorem pG (rd:Nat->Prop) (W:World) (τ:Nat->Question->Nat):(lw rd W τ).heap.size=W.heap.size:=by
 unfold lw;simp
section
variable {P Q:Program} {S V:FuncId->Bool} {cd:Code->Bool} {main:Bool} {Z:gB} {L eG:Nat->Prop} {W0:World} {A:Nat->Bool} {R:Value->World->Prop}
noncomputable abbrev R3 (L eG:Nat->Prop) (W0:World) (A:Nat->Bool):QJ:=⟨lw L W0 W0.tape,W0, λb=>b,L,eG,A⟩
structure Shut (S V:FuncId->Bool) (cd:Code->Bool) (L:Nat->Prop) (W0:World) (A:Nat->Bool):Prop where
 own:∀b o,A b=true->¬L b->W0.heap[b]?=some o->oS (FA S V cd (Bd A W0.heap.size)) o
 ro:∀b o,A b=true->L b->W0.heap[b]?=some o->∃c e fr,o= .cells c e fr∧VS (FA S V cd (Bd A W0.heap.size)) c
structure Ready (P:Program) (S V:FuncId->Bool) (cd:Code->Bool) (Z:gB) (L eG:Nat->Prop) (W0:World) (A:Nat->Bool):Prop where
 good:∀A:Nat->Bool,nM P (FA S V cd A)
 gK:jD P=true
 kU:P.globals.size<W0.heap.size
 a0:∀b,b<W0.heap.size->A b=true->(eG b∧¬L b)∨(L b∧(eG b∨Z.ro b))
 af:∀b,W0.heap.size<=b->A b=true
 own:∀b,eG b->b<W0.heap.size∧¬Z.sy b∧¬Z.ro b
 ro:∀b,Z.ro b->b<W0.heap.size
 sy:∀b,Z.sy b->b<W0.heap.size
 cl:∀b i,Z.cl b i->Z.sy b
 lL:∀b,L b->b<W0.heap.size∧(Z.ro b∨eG b)
 nm:¬Z.mute
theorem Ready.ground (r:Ready P S V cd Z L eG W0 A):Ground P S V cd Z (R3 L eG W0 A):=by
 have hsz:=pG L W0 W0.tape
 exact ⟨r.good,r.gK,by show _<(lw L W0 W0.tape).heap.size;rw [hsz];exact r.kU, λb _=>rfl, λb hb _=>by have hb:b<(lw L W0 W0.tape).heap.size:=hb;rw [hsz] at hb;exact hb, λa b _ _ _ _ h=>h, λ_ _=>rfl, λb h=>(by cases h), λb h=>(by cases h), λb h=>(by cases h),
  λb hb hA=>by
   have hb:b<(lw L W0 W0.tape).heap.size:=hb;rw [hsz] at hb;rcases r.a0 b hb hA with h|h
   ·exact .inl h.1
   ·exact h.2, λb hb=>by have hb:(lw L W0 W0.tape).heap.size<=b:=hb;rw [hsz] at hb;exact r.af b hb,r.own,r.ro,r.sy,r.cl,r.lL,r.nm, λ_ _=>rfl⟩
theorem Ready.wr (r:Ready P S V cd Z L eG W0 A) (hs:Shut S V cd L W0 A):WR (FA S V cd (Bd A (lw L W0 W0.tape).heap.size)) (λb=>b) (lw L W0 W0.tape) W0:=by
 have hsz:=pG L W0 W0.tape;refine ⟨λb hb _=>by rw [hsz] at hb;exact hb, λb o hb ho=>?_⟩;have hb:Bd A (lw L W0 W0.tape).heap.size b=true:=hb;rw [hsz] at hb ⊢;obtain ⟨hA,hlt⟩:=gN.1 hb;obtain ⟨o',ho',hor⟩:=UI _ _ _ _ ho;rcases hor with ⟨hr,rfl⟩|⟨hr,rfl⟩
 ·obtain ⟨c,e,fr,rfl,hc⟩:=hs.ro b o' hA hr ho';exact .inr (.inl ⟨rfl,c,e,(0,c.size),fr,rfl,hc,by rw [ho',oI], λi hi _ _=>⟨bn _,hi⟩⟩)
 ·have hoS:=hs.own b o hA hr ho';cases hc:isCells o with
  |false=>exact .inl ⟨rfl,hoS,hc,by rw [ho',an9 hoS]⟩
  |true=>
   cases o with
   |cells c e fr=>exact .inr (.inl ⟨rfl,c,e,fr,fr,rfl,hoS,by rw [ho',oI], λi _ h1 h2=>⟨h1,h2⟩⟩)
   |_=>cases hc
theorem Ready.lk (r:Ready P S V cd Z L eG W0 A) (hs:Shut S V cd L W0 A) (b:Nat) (o:Obj) (hA:A b=true) (ho:(lw L W0 W0.tape).heap[b]?=some o) (hl:¬kT o):eG b∧¬L b:=by
 obtain ⟨o',ho',hor⟩:=UI _ _ _ _ ho;have hlt:=(aI.1 ho').1;rcases hor with ⟨hr,rfl⟩|⟨hr,rfl⟩
 ·obtain ⟨c,e,fr,rfl,hc⟩:=hs.ro b o' hA hr ho';exact absurd ⟨c,e,(0,c.size),rfl, λi hi=>⟨bn _,hi⟩⟩ hl
 ·rcases r.a0 b hlt hA with h|h
  ·exact h
  ·exact absurd h.1 hr
theorem XD {Stop:(Nat->Prop)->Goroutine->World->Prop} (hQ:Alike P Q) (hSQ:∀g,S g=true->Q.funcs[g]?=P.funcs[g]?) (r:Ready P S V cd Z L eG W0 A) (hs:Shut S V cd L W0 A) {g:FuncId} (hg:S g=true) {args:Array Value} (ha:VS (FA S V cd (Bd A W0.heap.size)) args)
 (nS:∀τ,Calls P g args (lw L W0 τ) λe w'=>∃v,e= .returned v∧R v w') {c:Frame} {K':List Frame}
 (oO:∀v w' f' dL W',R v w'->J2 S V cd Z (R3 L eG W0 A) v w' f' dL W'->Gw Q main Z Stop dL (G (c.finish (rv f' v)) K') W'):
 Gw Q main Z Stop eG (G (Frame.enter Q g args .normal) (c::K')) W0:=by
 have hsz:=pG L W0 W0.tape
 exact IZ (D:=R3 L eG W0 A) (δ:=Unit) (Stop:= λ_=>Stop) hQ r.ground hg (hSQ g hg) (args:=args) (by show VS (FA S V cd (Bd A (lw L W0 W0.tape).heap.size)) args;rw [hsz];exact ha) (oI args).symm (r.wr hs) (r.lk hs) nS () (QL hSQ)
  λhc _ _ h hf=>h.back hQ r.ground hc hf λ_=>oO
end
end
section
section
variable [Sh]
variable {P Q:Program} {S V:FuncId->Bool} {cd:Code->Bool} {main:Bool} {Z:gB} {δ:Type} {Stop:δ->(Nat->Prop)->Goroutine->World->Prop} {D:QJ} {K:List Frame} {gz:Frame} {R:Value->World->Prop} {T:Frame->World->Prop}
def En (P Q:Program) (S:FuncId->Bool):Prop:=∀g,S g=true->Q.funcs[g]?≠P.funcs[g]?->∀as cs w,∃o w1,step P (lone (Frame.enter P g as .normal) cs w)= .ended o w1
theorem Kb {q:FuncId} {fn:Func} {why:String} (h:P.funcs[q]?=some fn) (hb:fn.body=some (.refuse why)) (hq:∀g,S g=true->Q.funcs[g]?≠P.funcs[g]?->g=q):En P Q S:= λg hg hne as cs w=>by
 obtain rfl:=hq g hg hne
 have key:∃o,stepG P true (G (Frame.enter P g as .normal) cs) w= .ended o w #[]:=by
  unfold stepG G;simp [Frame.enter,h,hb,stepG.exec]
 obtain ⟨o,e⟩:=key;exact ⟨o,w,uN e⟩
def Hit (P:Program) (w0:World) (gz:Frame) (T:Frame->World->Prop):Prop:=
 ∀τ,∃n fr' w',T fr' w'∧runN P n (lone gz [Par.stk] (w0.tp τ))= .next (lone fr' [Par.stk] w')
theorem N9 (hh:En P Q S) (nS:Wj P D.w0 gz R):Past P Q S V cd main Z Stop D K gz:= λt s h=>by
 exfalso;obtain ⟨g,as,hg,_,hup,hfr,hne,_⟩:=h.ent;obtain ⟨n,v,w',fr',h1,h2,h3⟩:=nS s.w.tape;have hrun:=h.run s.w.tape λ_ _ _=>rfl
 obtain ⟨k,rfl⟩:=ahead hrun (λhf=>hup hf.1) h2 h3;obtain ⟨o,w1,he⟩:=hh g hg hne as (s.up++ [Par.stk]) (s.w.tp s.w.tape);rw [hfr] at hrun;rw [Nat.add_assoc,Nat.add_comm 1 k,oD,hrun] at h2;dsimp only at h2;rw [runN_ended k he] at h2;cases h2
def Dry (P:Program) (w0:World) (gz:Frame) (T:Frame->World->Prop) (t:Nat) (s:St δ):Prop:=
 ∀τ:Nat->Question->Nat,(∀j q,j<s.w.drawn->τ j q=s.w.tape j q)->∀n,n<=t->∀fr' w',runN P n (lone gz [Par.stk] (w0.tp τ))= .next (lone fr' [Par.stk] w')->¬T fr' w'
theorem seg (hQ:Alike P Q) (G0:Ground P S V cd Z D) (hT:∀fr w,T fr w->fr.mode= .run) (hit:Hit P D.w0 gz T) (hh:En P Q S) {s0:St δ} (h0:Inv P Q S V cd main Z Stop D K gz 0 s0)
 (hstop:∀t s τ,Ex P S V cd Z D gz t s->s.up= []->T s.fr (s.w.tp τ)->Gw Q main Z (Stop s.d) s.own (G (jv s.f s.fr) K) s.W):False:=by
 classical
 have Zd:∀t s,Inv P Q S V cd main Z Stop D K gz t s->∀τ:Nat->Question->Nat,(∀j q,j<s.w.drawn->τ j q=s.w.tape j q)->∀fr' w',runN P t (lone gz [Par.stk] (D.w0.tp τ))= .next (lone fr' [Par.stk] w')->¬T fr' w':=by
  intro t s h τ ag fr' w' hr hT';rw [h.run τ ag] at hr;obtain ⟨e1,e2,e3⟩:=uM (Stepped.next.inj hr);subst e1 e3
  have hup:s.up= []:=by
   have :=congrArg List.length e2;simpa using this
  refine h.ngw ?_
  rw [hup];exact hstop t s τ h.toEx hup hT'
 have far:∀(t:Nat) (s:St δ),Dry P D.w0 gz T t s->∀τ:Nat->Question->Nat,(∀j q,j<s.w.drawn->τ j q=s.w.tape j q)->∃k fr' w',T fr' w'∧runN P (t+1+k) (lone gz [Par.stk] (D.w0.tp τ))= .next (lone fr' [Par.stk] w'):=by
  intro t s hd τ ag;obtain ⟨n,fr',w',hT',hn⟩:=hit τ;rcases bu t n with hlt|hge
  ·obtain ⟨k,rfl⟩:=Nat.exists_eq_add_of_lt hlt;exact ⟨k,fr',w',hT',by rw [Nat.add_right_comm];exact hn⟩
  ·exact absurd hT' (hd τ ag n hge fr' w' hn)
 have nx:∀(x:{ p:Nat×St δ // Inv P Q S V cd main Z Stop D K gz p.1 p.2∧Dry P D.w0 gz T p.1 p.2 }),∃y:{ p:Nat×St δ // Inv P Q S V cd main Z Stop D K gz p.1 p.2∧Dry P D.w0 gz T p.1 p.2 },y.1.1=x.1.1+1∧x.1.2.w.drawn<=y.1.2.w.drawn∧∀j q,j<x.1.2.w.drawn->y.1.2.w.tape j q=x.1.2.w.tape j q:=by
  rintro ⟨⟨t,s⟩,h,hd⟩;dsimp only at h hd
  have hnf:¬Fin s.fr s.up:=by
   rintro ⟨hu,hm,hde⟩;obtain ⟨k,fr',w',_,hn⟩:=far t s hd s.w.tape λ_ _ _=>rfl
   have hrun:=h.run s.w.tape λ_ _ _=>rfl
   have hfr:=h.stk.top;obtain ⟨fn,c,hfn,_⟩:=(G0.good _).fit.body s.fr.fn hfr.fn;rw [Nat.add_assoc,Nat.add_comm 1 k,oD,hrun,hu] at hn;exact zG ⟨fn,hfn⟩ hfr.kind hm hde _ k fr' [] w' hn
  obtain ⟨s',h1,h2,h3⟩:=h.YZ hQ G0 (λτ ag=>by
   obtain ⟨k,fr',w',hT',hn⟩:=far t s hd τ ag;exact ⟨k,fr',w',⟨λch e=>(by rw [hT _ _ hT'] at e;cases e),hn⟩⟩) hnf
  rcases h1 with h1|h1
  ·refine ⟨⟨(t+1,s'),h1, λτ ag n hn fr' w' hr=>?_⟩,rfl,h2,h3⟩;rcases bu t n with hlt|hge
   ·obtain rfl:n=t+1:=Nat.le_antisymm hn hlt;exact Zd _ _ h1 τ ag fr' w' hr
   ·exact hd τ (λj q hj=>(ag j q (aK hj h2)).trans (h3 j q hj)) n hge fr' w' hr
  ·exfalso;obtain ⟨g,as,hg,_,hup,hfr,hne,_⟩:=h1.ent;obtain ⟨k,fr',w',_,hn⟩:=far t s hd s'.w.tape h3;have hrun:=h1.run s'.w.tape λ_ _ _=>rfl
   rw [oD,hrun] at hn;dsimp only at hn;cases k with
   |zero=>
    simp only [runN] at hn;have :=congrArg List.length (uM (Stepped.next.inj hn)).2.1;simp at this;exact hup this
   |succ k=>
    obtain ⟨o,w1,he⟩:=hh g hg hne as (s'.up++ [Par.stk]) (s'.w.tp s'.w.tape);rw [hfr,runN_ended k he] at hn;cases hn
 let seq:(i:Nat)->{ p:Nat×St δ // Inv P Q S V cd main Z Stop D K gz p.1 p.2∧Dry P D.w0 gz T p.1 p.2 }:= λi=>Nat.rec ⟨(0,s0),h0, λτ ag n hn fr' w' hr=>by
  obtain rfl:n=0:=Nat.le_zero.1 hn;exact Zd _ _ h0 τ ag fr' w' hr⟩ (λ_ x=>(nx x).choose) i
 have hlt:∀i,(seq (i+1)).1.1=(seq i).1.1+1:= λi=>(nx (seq i)).choose_spec.1
 have hd:∀i,(seq i).1.2.w.drawn<=(seq (i+1)).1.2.w.drawn:= λi=>(nx (seq i)).choose_spec.2.1
 have ht:∀i j q,j<(seq i).1.2.w.drawn->(seq (i+1)).1.2.w.tape j q=(seq i).1.2.w.tape j q:= λi=>(nx (seq i)).choose_spec.2.2
 have hge:∀i,(seq i).1.1=i:=by
  intro i
  induction i with
  |zero=>rfl
  |succ i ih=>rw [hlt,ih]
 have hdd:∀d t,(seq t).1.2.w.drawn<=(seq (t+d)).1.2.w.drawn:=by
  intro d
  induction d with
  |zero=>intro t;exact aJ _
  |succ d ih=>intro t;exact aT (ih t) (hd (t+d))
 have htt:∀d t j q,j<(seq t).1.2.w.drawn->(seq (t+d)).1.2.w.tape j q=(seq t).1.2.w.tape j q:=by
  intro d
  induction d with
  |zero=>intro t j q _;rfl
  |succ d ih=>
   intro t j q hj;exact (ht (t+d) j q (aK hj (hdd d t))).trans (ih t j q hj)
 let τ:Nat->Question->Nat:= λj q=>if h:∃t,j<(seq t).1.2.w.drawn then (seq h.choose).1.2.w.tape j q else 0
 have LJ:∀t j q,j<(seq t).1.2.w.drawn->τ j q=(seq t).1.2.w.tape j q:=by
  intro t j q hj;have h:∃t,j<(seq t).1.2.w.drawn:=⟨t,hj⟩;have e:τ j q=(seq h.choose).1.2.w.tape j q:=dif_pos h;rw [e];have hc:=h.choose_spec;generalize h.choose=u at hc;rcases Nat.le_total t u with hle|hle
  ·obtain ⟨d,rfl⟩:=Nat.exists_eq_add_of_le hle;exact htt d t j q hj
  ·obtain ⟨d,rfl⟩:=Nat.exists_eq_add_of_le hle;exact (htt d u j q hc).symm
 obtain ⟨n,fr',w',hT',hn⟩:=hit τ;exact (seq n).2.2 τ (λj q hj=>LJ n j q hj) n (Nat.le_of_eq (hge n).symm) fr' w' hn hT'
theorem Je (G0:Ground P S V cd Z D) (hf:mU P (FA S V cd (Bd D.A D.w0.heap.size)) gz) (hm:gz.mode= .run) (hro:gz.roundOf=none)
 (hwr:WR (FA S V cd (Bd D.A D.w0.heap.size)) D.f0 D.w0 D.W0) (hlk:∀(b:Nat) (o:Obj),D.A b=true->D.w0.heap[b]?=some o->¬kT o->D.eG (D.f0 b)∧¬D.L (D.f0 b)) {d0:δ}
 (hn:¬Gw Q main Z (Stop d0) D.eG (G (jv D.f0 gz) K) D.W0):Inv P Q S V cd main Z Stop D K gz 0 ⟨gz,[],D.w0,D.f0,D.eG,D.W0,d0⟩:=
 ⟨⟨⟨hf,hro⟩,.inl hm,hwr,aJ _, λb _=>rfl,G0.Z5, λb h1 h2=>absurd h1 (Nat.not_le.2 h2), λb c h1 h2 h3=>absurd h1 (Nat.not_le.2 (Nat.lt_trans h2 h3)),G0.a0,hlk, λb hb=>hb, λb hb=>.inl hb, λb hb=>(G0.own b hb).1,Since.refl Z D.W0, λb _=>rfl, λτ _=>rfl⟩,hn⟩
theorem Ex.ao0 {t:Nat} {s:St δ} (h:Ex P S V cd Z D gz t s) (τ:Nat->Question->Nat):J2 S V cd Z D undef (s.w.tp τ) s.f s.own s.W:=
 ⟨al4 h.wr,uy,h.n0,h.fid,h.Ht,h.YX,h.IY,h.img,h.lk,h.owns,h.RY,h.YY,h.since,h.kept⟩
end
section
attribute [local instance] noSh
variable {P Q:Program} {S V:FuncId->Bool} {cd:Code->Bool} {main:Bool} {Z:gB} {L eG:Nat->Prop} {W0:World} {A:Nat->Bool} {R:Value->World->Prop} {T:Frame->World->Prop}
theorem ao1 (d:Deferred):rd (λb=>b) d=d:=by
 obtain ⟨t,a⟩:=d;unfold rd;simp only [oI];cases t<;>try simp only [oI]
 ·rename_i fn cap;cases fn<;>rfl
theorem ac5 (i:Item):vE (λb=>b) i=i:=by cases i<;>rfl
theorem UJ (fr:Frame):jv (λb=>b) fr=fr:=by
 obtain ⟨a,b,c,d,e,f,g⟩:=fr;unfold jv;simp only [oI];congr 1
 ·rw [show vE (λb=>b)=id from funext ac5,List.map_id]
 ·rw [show rd (λb=>b)=id from funext ao1,List.map_id]
 ·simp
theorem ac6 {Stop:(Nat->Prop)->Goroutine->World->Prop} {gz:Frame} {K:List Frame} (hQ:Alike P Q) (hh:En P Q S) (r:Ready P S V cd Z L eG W0 A) (hs:Shut S V cd L W0 A) (hf:mU P (FA S V cd (Bd A W0.heap.size)) gz) (hm:gz.mode= .run) (hro:gz.roundOf=none) (hT:∀fr w,T fr w->fr.mode= .run)
 (hit:∀τ,∃n fr' w',T fr' w'∧runN P n (lone gz [Par.stk] (lw L W0 τ))= .next (lone fr' [Par.stk] w'))
 (oO:∀fr w f dL W',T fr w->mU P (FA S V cd (Bd A w.heap.size)) fr->J2 S V cd Z (R3 L eG W0 A) undef w f dL W'->Gw Q main Z Stop dL (G (jv f fr) K) W'):
 Gw Q main Z Stop eG (G gz K) W0:=by
 have hsz:=pG L W0 W0.tape;apply bq;intro hn
 refine seg (D:=R3 L eG W0 A) (δ:=Unit) (Stop:= λ_=>Stop) (main:=main) (K:=K) (gz:=gz) (T:=T) hQ r.ground hT hit hh (Je (d0:=()) r.ground (by show mU P (FA S V cd (Bd A (lw L W0 W0.tape).heap.size)) gz;rw [hsz];exact hf) hm hro (r.wr hs) (r.lk hs) (by show ¬Gw Q main Z Stop eG (G (jv (λb=>b) gz) K) W0;rw [UJ];exact hn))
  λt s τ h hup hT'=>oO s.fr (s.w.tp τ) s.f s.own s.W hT' h.stk.top (h.ao0 τ)
theorem XE {Stop:(Nat->Prop)->Goroutine->World->Prop} {gz c:Frame} {K':List Frame} (hQ:Alike P Q) (hh:En P Q S) (r:Ready P S V cd Z L eG W0 A) (hs:Shut S V cd L W0 A) (hf:mU P (FA S V cd (Bd A W0.heap.size)) gz) (hm:gz.mode= .run) (hro:gz.roundOf=none)
 (nS:∀τ,∃n v w' fr',R v w'∧runN P n (lone gz [Par.stk] (lw L W0 τ))= .next (lone fr' [Par.stk] w')∧fr'.leaving P w' (.returned v))
 (oO:∀v w' f' dL W',R v w'->J2 S V cd Z (R3 L eG W0 A) v w' f' dL W'->Gw Q main Z Stop dL (G (c.finish (rv f' v)) K') W'):
 Gw Q main Z Stop eG (G gz (c::K')) W0:=by
 have hsz:=pG L W0 W0.tape;apply bq;intro hn;have hc:Wj P (R3 L eG W0 A).w0 gz R:=nS
 exact al8 (D:=R3 L eG W0 A) (δ:=Unit) (Stop:= λ_=>Stop) (main:=main) (K:=c::K') (gz:=gz) (R:=R) hQ r.ground hc
  (Je (d0:=()) r.ground (by show mU P (FA S V cd (Bd A (lw L W0 W0.tape).heap.size)) gz;rw [hsz];exact hf) hm hro (r.wr hs) (r.lk hs) (by show ¬Gw Q main Z Stop eG (G (jv (λb=>b) gz) (c::K')) W0;rw [UJ];exact hn))
  (N9 hh hc) λh zq=>h.back hQ r.ground hc zq λ_=>oO
end
end
section
variable [Sh]
section
variable {P:Program} {S V:FuncId->Bool} {A A':Nat->Bool} {c1 c2:Code->Bool}
theorem Cy:fB P ⟨S,A,c1,V⟩=fB P ⟨S,A',c2,V⟩:=by
 funext x;cases x<;>rfl
theorem UK:xP P ⟨S,A,c1,V⟩=xP P ⟨S,A',c2,V⟩:=by
 funext c;unfold xP;rw [Cy (A':=A') (c2:=c2)];cases c.callee<;>rfl
theorem ac7:lq P ⟨S,A,c1,V⟩=lq P ⟨S,A',c2,V⟩:=by
 funext o;unfold lq;rw [Cy (A':=A') (c2:=c2),UK (A':=A') (c2:=c2)];cases o<;>try rfl
 rename_i fn a b;cases fn<;>first |rfl|simp
theorem UL:codeOk P ⟨S,A,c1,V⟩=codeOk P ⟨S,A',c2,V⟩:=by
 funext c
 induction c with
 |region _ ops _=>unfold codeOk;rw [ac7 (A':=A') (c2:=c2)]
 |seq a b ha hb=>unfold codeOk;rw [ha,hb]
 |cond x a b ha hb=>unfold codeOk;rw [Cy (A':=A') (c2:=c2),ha,hb]
 |block _ c h=>unfold codeOk;exact h
 |loop c h=>unfold codeOk;exact h
 |scope c h=>unfold codeOk;exact h
 |rangeFunc x _ a b ha hb=>unfold codeOk;rw [Cy (A':=A') (c2:=c2),ha,hb]
 |_=>rfl
def Jf (P:Program) (S V:FuncId->Bool) (g:FuncId):Bool:=
 match P.funcs[g]? with
 |none=>false
 |some fn=>match fn.body with
  |none=>false
  |some c=>!(fn.name== "runtime.NumGoroutine")&&codeOk P ⟨S, λ_=>false, λ_=>false,V⟩ c
def fH (P:Program) (S V:FuncId->Bool):Code->Bool:=codeOk P ⟨S, λ_=>false, λ_=>false,V⟩
theorem Pq (h:∀g,S g=true->Jf P S V g=true) (hV:∀g,V g=true->S g=true) (A:Nat->Bool):nM P (FA S V (fH P S V) A):=by
 refine ⟨⟨λg hg=>?_,hV⟩, λc=>?_⟩
 ·have :=h g hg;unfold Jf at this;split at this
  ·cases this
  ·rename_i fn hfn;split at this
   ·cases this
   ·rename_i c hc;rw [bC] at this;exact ⟨fn,c,hfn,hc,by simpa using this.1,this.2⟩
 ·exact congrFun UL c
end
end
section
attribute [local instance] noSh
theorem Pv (L:Nat->Prop) (W:World) (τ:Nat->Question->Nat) (b o:Nat):(lw L W τ).cell? ⟨b,o,none⟩=W.cell? ⟨b,o,none⟩:=by
 classical
 unfold World.cell? lw;simp only [Array.getElem?_mapIdx];cases hb:W.heap[b]? with
 |none=>rfl
 |some x=>
  simp only [ay]
  by_cases h:L b
  ·rw [aj h];cases x<;>rfl
  ·rw [aa h]
theorem Jg {f:Nat->Nat} {c:Array Value} (h:∀x∈c,fA x=true):c.map (rv f)=c:=by
 have :c.map (rv f)=c.map id:=Array.map_congr_left λx hx=>(kE (F:=⟨λ_=>false, λ_=>false, λ_=>false, λ_=>false⟩) (h x hx)).1
 rw [this,Array.map_id]
structure Kept (Z:gB) (own:Nat->Prop) (W:World) (dL:Nat->Prop) (W':World):Prop where
 rely:dZ Z own W W'
 sub:∀b,own b->dL b
 new:∀b,dL b->own b∨(W.heap.size<=b∧b<W'.heap.size)
structure Made (n:Nat) (w':World) (f':Nat->Nat) (dL:Nat->Prop) (W':World):Prop where
 old:∀b,b<n->f' b=b
 ge:∀b,n<=b->b<w'.heap.size->n<=f' b∧f' b<W'.heap.size∧dL (f' b)
 blk:∀b c e fr,n<=b->w'.heap[b]?=some (.cells c e fr)->∃fr',W'.heap[f' b]?=some (.cells (c.map (rv f')) e fr')
 cell:∀b o v,n<=b->w'.cell? ⟨b,o,none⟩=some v->W'.cell? ⟨f' b,o,none⟩=some (rv f' v)
 frz:∀b o,n<=b->(∃v,w'.cell? ⟨b,o,none⟩=some v)->w'.frozen? ⟨b,o,none⟩=false->W'.frozen? ⟨f' b,o,none⟩=false
section
variable {P:Program} {S:FuncId->Bool} {main:Bool} {Z:gB} {own:Nat->Prop} {W:World} {As:Nat->Prop} {R:Value->World->Prop}
open Classical in
noncomputable def jX (As:Nat->Prop) (n:Nat):Nat->Bool:= λb=>decide (As b∨n<=b)
def OnA (P:Program) (S:FuncId->Bool) (As:Nat->Prop) (n:Nat) (c:Array Value):Prop:=VS (FA S S (fH P S S) (Bd (jX As n) n)) c
theorem xk {Stop:(Nat->Prop)->Goroutine->World->Prop} (good:∀A:Nat->Bool,nM P (FA S S (fH P S S) A)) (gK:jD P=true) (kU:P.globals.size<W.heap.size)
 (hAs:∀b,As b->own b∨Z.ro b) (hin:∀b o,As b->W.heap[b]?=some o->∃c e fr,o= .cells c e fr∧OnA P S As W.heap.size c)
 (hown:∀b,own b->b<W.heap.size∧¬Z.sy b∧¬Z.ro b) (hro:∀b,Z.ro b->b<W.heap.size) (hsy:∀b,Z.sy b->b<W.heap.size) (hcl:∀b i,Z.cl b i->Z.sy b) (hnm:¬Z.mute)
 {g:FuncId} (hg:S g=true) {args:Array Value} (ha:OnA P S As W.heap.size args)
 (nS:∀w,w.heap.size=W.heap.size->(∀b o,w.cell? ⟨b,o,none⟩=W.cell? ⟨b,o,none⟩)->Calls P g args w λe w'=>∃v,e= .returned v∧R v w') {c:Frame} {K':List Frame}
 (oO:∀v w' f' dL W',R v w'->Kept Z own W dL W'->Made W.heap.size w' f' dL W'->Gw P main Z Stop dL (G (c.finish (rv f' v)) K') W'):
 Gw P main Z Stop own (G (Frame.enter P g args .normal) (c::K')) W:=by
 classical
 have hlt:∀b,As b->b<W.heap.size:= λb hb=>(hAs b hb).elim (λh=>(hown b h).1) (hro b)
 have hA1:∀b,b<W.heap.size->jX As W.heap.size b=true->As b:= λb hb h=>by
  have :=of_decide_eq_true h;exact this.resolve_right (by omega)
 refine XD (Q:=P) (S:=S) (V:=S) (cd:=fH P S S) (L:= λb=>own b∨Z.ro b) (eG:=own) (A:=jX As W.heap.size) (R:=R) (Alike.refl P) (λ_ _=>rfl)
  ⟨good,gK,kU, λb hb hA=>.inr ⟨hAs b (hA1 b hb hA),hAs b (hA1 b hb hA)⟩, λb hb=>decide_eq_true (.inr hb),hown,hro,hsy,hcl, λb hb=>hb.elim (λh=>⟨(hown b h).1,.inr h⟩) (λh=>⟨hro b h,.inl h⟩),hnm⟩
  ⟨λb o hA hL ho=>?_, λb o hA hL ho=>?_⟩ hg ha (λτ=>nS _ (pG _ _ _) λb o=>Pv _ _ _ b o) λv w' f' dL W' hR hb=>?_
 ·exfalso;have hb:=(aI.1 ho).1;exact hL (hAs b (hA1 b hb hA))
 ·have hb:=(aI.1 ho).1;obtain ⟨c,e,fr,h1,h2⟩:=hin b o (hA1 b hb hA) ho;exact ⟨c,e,fr,h1,h2⟩
 ·have hsz:=pG (λb=>own b∨Z.ro b) W W.tape;have hsz':(R3 (λb=>own b∨Z.ro b) own W (jX As W.heap.size)).w0.heap.size=W.heap.size:=hsz;have hbd:∀b,W.heap.size<=b->b<w'.heap.size->Bd (jX As W.heap.size) w'.heap.size b=true:= λb h1 h2=>gN.2 ⟨decide_eq_true (.inr h1),h2⟩
  refine oO v w' f' dL W' hR ⟨⟨hb.since.tape,hb.since.out,hb.since.os,hb.since.size, λb h=>hb.kept b (.inl h), λb h=>hb.kept b (.inr h),hb.since.sy,hb.since.cl⟩,hb.owns, λb h=>(hb.RY b h).imp id λh2=>⟨h2,hb.YY b h⟩⟩
   ⟨λb h=>hb.fid b (by rw [hsz'];exact h), λb h1 h2=>?_, λb c e fr h1 hx=>?_, λb o v h1 hc=>?_, λb o h1 hc hf=>?_⟩
  ·have e1:=hb.YX b (by rw [hsz'];exact h1) h2;refine ⟨e1,hb.Ht b h2 rfl,(hb.img b h2 (decide_eq_true (.inr h1))).resolve_right λx=>?_⟩;have :=hro _ x;have e1:W.heap.size<=f' b:=e1;omega
  ·have h2:=(aI.1 hx).1;rcases hb.wr.blk b _ (hbd b h1 h2) hx with ⟨_,_,k3,_⟩|⟨_,c',e',vk,fr',k1,k2,k3,_⟩|⟨k1,_⟩
   ·cases k3
   ·cases k1;exact ⟨fr',k3⟩
   ·cases k1
  ·unfold World.cell? at hc;cases hx:w'.heap[b]? with
   |none=>simp only [hx] at hc;cases hc
   |some x=>
    have h2:=(aI.1 hx).1;simp only [hx] at hc;rcases hb.wr.blk b x (hbd b h1 h2) hx with ⟨_,_,k3,k4⟩|⟨_,c,e,fr,fr',rfl,k2,k3,_⟩|⟨k1,_⟩
    ·cases x<;>first |(cases hc;done)|skip
     cases k3
    ·unfold World.cell?;simp only [k3];have hc:c[o]?=some v:=hc
     show (c.map (rv f'))[o]?=_
     rw [aG,hc];rfl
    ·cases k1
  ·obtain ⟨v,hc⟩:=hc;unfold World.cell? at hc;unfold World.frozen? at hf ⊢;cases hx:w'.heap[b]? with
   |none=>simp only [hx] at hc;cases hc
   |some x=>
    have h2:=(aI.1 hx).1;simp only [hx] at hc hf;rcases hb.wr.blk b x (hbd b h1 h2) hx with ⟨_,_,k3,k4⟩|⟨_,c,e,fr,fr',rfl,k2,k3,k4⟩|⟨k1,_⟩
    ·cases x<;>first |(cases hc;done)|skip
     cases k3
    ·simp only [k3];have hc:c[o]?=some v:=hc
     have ho:=(aI.1 hc).1;have k5:=k4 o ho;simp only [Bool.and_eq_false_iff,decide_eq_false_iff_not] at hf ⊢
     by_cases hq:fr'.1<=o∧o<fr'.2
     ·have :=k5 hq.1 hq.2;omega
     ·omega
    ·cases k1
end
end
section
attribute [local instance] noSh
theorem XF (L:Nat->Prop) (W:World) (τ:Nat->Question->Nat) (b:Nat) (h:¬L b):(lw L W τ).heap[b]?=W.heap[b]?:=by
 classical
 unfold lw;simp only [Array.getElem?_mapIdx];cases hb:W.heap[b]? with
 |none=>rfl
 |some x=>simp only [ay,aa h]
theorem Q8 {P:Program} {f:FuncId} {fn:Func} {c:Code} {a:Act} {w:World} {R:Value->World->Prop} (hf:P.funcs[f]?=some fn) (h:c.wp P (bodyPost P fn λe w'=>∃v,e= .returned v∧R v w') a w) (cs:List Frame):
 ∃n v w' fr',R v w'∧runN P n (lone ((base f).at a [.code c]) cs w)= .next (lone fr' cs w')∧fr'.leaving P w' (.returned v):=by
 obtain ⟨e,a',w',hq,harr⟩:=h (base f) [] cs;cases e with
 |normal=>
  obtain ⟨hd,v,hr,v',e1,hR⟩:=hq;cases e1;obtain ⟨n,hn⟩:=Steps.trans harr (.one step_end);exact ⟨n,v,w',_,hR,hn,rfl,hd,rfl,fn,hf,hr⟩
 |ret=>
  obtain ⟨hd,v,hr,v',e1,hR⟩:=hq;cases e1;obtain ⟨todo,n,hn⟩:=harr;exact ⟨n,v,w',_,hR,hn,rfl,hd,rfl,fn,hf,hr⟩
 |panic chain=>obtain ⟨_,v,e1,_⟩:=hq;cases e1
 |exit id=>exact hq.elim
 |goto l=>exact hq.elim
 |outgrown=>obtain ⟨v,e1,_⟩:=hq;cases e1
structure ao2 (X:Nat->Prop) (Z:gB) (own:Nat->Prop) (W:World) (dL:Nat->Prop) (W':World):Prop where
 tape:W'.tape=W.tape
 out:W'.output=W.output
 os:OsLater W.os W'.os
 size:W.heap.size<=W'.heap.size
 kept:∀b,own b∨Z.ro b->¬X b->W'.heap[b]?=W.heap[b]?
 sub:∀b,own b->dL b
 new:∀b,dL b->own b∨(W.heap.size<=b∧b<W'.heap.size)
 lt:∀b,dL b->b<W'.heap.size
section
variable {P Q:Program} {S:FuncId->Bool} {main:Bool} {Z:gB} {own X:Nat->Prop} {W:World} {As:Nat->Prop} {R:Value->World->Prop}
theorem Q9 {Stop:(Nat->Prop)->Goroutine->World->Prop} (hQ:Alike P Q) (hh:En P Q S) (good:∀A:Nat->Bool,nM P (FA S S (fH P S S) A)) (gK:jD P=true) (kU:P.globals.size<W.heap.size)
 (hAs:∀b,As b->own b∨Z.ro b) (hX:∀b,X b->own b) (hin:∀b o,As b->W.heap[b]?=some o->∃c e fr,o= .cells c e fr∧OnA P S As W.heap.size c)
 (hown:∀b,own b->b<W.heap.size∧¬Z.sy b∧¬Z.ro b) (hro:∀b,Z.ro b->b<W.heap.size) (hsy:∀b,Z.sy b->b<W.heap.size) (hcl:∀b i,Z.cl b i->Z.sy b) (hnm:¬Z.mute)
 {g:FuncId} (hg:S g=true) {fn:Func} (hfn:P.funcs[g]?=some fn) {code:Code} (hc:fH P S S code=true) {a:Act} (hd:a.defers= []) (ha:OnA P S As W.heap.size a.tmps)
 (nS:∀w,w.heap.size=W.heap.size->(∀b o,w.cell? ⟨b,o,none⟩=W.cell? ⟨b,o,none⟩)->(∀b,X b->w.heap[b]?=W.heap[b]?)->code.wp P (bodyPost P fn λe w'=>∃v,e= .returned v∧R v w') a w) {c:Frame} {K':List Frame}
 (oO:∀v w' f' dL W',R v w'->(∀b,b<W.heap.size->f' b=b)->ao2 X Z own W dL W'->Gw Q main Z Stop dL (G (c.finish (rv f' v)) K') W'):
 Gw Q main Z Stop own (G ((base g).at a [.code code]) (c::K')) W:=by
 classical
 have hlt:∀b,As b->b<W.heap.size:= λb hb=>(hAs b hb).elim (λh=>(hown b h).1) (hro b)
 have hA1:∀b,b<W.heap.size->jX As W.heap.size b=true->As b:= λb hb h=>by
  have :=of_decide_eq_true h;exact this.resolve_right (by omega)
 have az9:∀b,Z.ro b->¬X b:= λb h1 h2=>(hown b (hX b h2)).2.2 h1
 refine XE (P:=P) (Q:=Q) (S:=S) (V:=S) (cd:=fH P S S) (L:= λb=>(own b∨Z.ro b)∧¬X b) (eG:=own) (A:=jX As W.heap.size) (R:=R) hQ hh
  ⟨good,gK,kU, λb hb hA=>?_, λb hb=>decide_eq_true (.inr hb),hown,hro,hsy,hcl, λb hb=>hb.1.elim (λh=>⟨(hown b h).1,.inr h⟩) (λh=>⟨hro b h,.inl h⟩),hnm⟩
  ⟨λb o hA hL ho=>?_, λb o hA hL ho=>?_⟩ ⟨hg,ha, λi hi=>?_, λd hd'=>?_,rfl, λl hl=>?_⟩ rfl rfl (λτ=>Q8 hfn (nS _ (pG _ _ _) (λb o=>Pv _ _ _ b o) λb hb=>XF _ _ _ _ λh=>h.2 hb) _) λv w' f' dL W' hR hb=>?_
 ·by_cases hx:X b
  ·exact .inl ⟨hX b hx, λh=>h.2 hx⟩
  ·exact .inr ⟨⟨hAs b (hA1 b hb hA),hx⟩,hAs b (hA1 b hb hA)⟩
 ·have hb:=(aI.1 ho).1;obtain ⟨c,e,fr,rfl,h2⟩:=hin b o (hA1 b hb hA) ho;exact h2
 ·have hb:=(aI.1 ho).1;obtain ⟨c,e,fr,h1,h2⟩:=hin b o (hA1 b hb hA) ho;exact ⟨c,e,fr,h1,h2⟩
 ·have hi:i∈ [Item.code code]:=hi;rw [aS] at hi;subst hi;exact hc
 ·have hd':d∈a.defers:=hd';rw [hd] at hd';cases hd'
 ·cases hl
 ·have hsz:=pG (λb=>(own b∨Z.ro b)∧¬X b) W W.tape;have hsz':(R3 (λb=>(own b∨Z.ro b)∧¬X b) own W (jX As W.heap.size)).w0.heap.size=W.heap.size:=hsz;exact oO v w' f' dL W' hR (λb h=>hb.fid b (by rw [hsz'];exact h)) ⟨hb.since.tape,hb.since.out,hb.since.os,hb.since.size, λb h1 h2=>hb.kept b ⟨h1,h2⟩,hb.owns, λb h=>(hb.RY b h).imp id λh2=>⟨h2,hb.YY b h⟩,hb.YY⟩
end
end
section
def zR (P:Program) (b:Frame) (k:List Item) (cs:List Frame) (z:Code) (T:Act->World->Prop) (c:Code) (a:Act) (w:World):Prop:=
 ∃a' w',T a' w'∧Steps P (lone (b.at a (.code c::k)) cs w) (lone (b.at a' (.code z::k)) cs w')
theorem zR.here {P:Program} {b:Frame} {k:List Item} {cs:List Frame} {z:Code} {T:Act->World->Prop} {a:Act} {w:World} (h:T a w):zR P b k cs z T z a w:=⟨a,w,h,Steps.refl _ _⟩
theorem zR.seq {P:Program} {b:Frame} {k:List Item} {cs:List Frame} {z x y:Code} {T:Act->World->Prop} {a:Act} {w:World} (h:x.wp P (λe a w=>e= .normal∧zR P b k cs z T y a w) a w):zR P b k cs z T (.seq x y) a w:=by
 obtain ⟨e,a1,w1,⟨rfl,a2,w2,hT,hs⟩,harr⟩:=h b (.code y::k) cs;exact ⟨a2,w2,hT,Steps.trans (.head step_seq harr) hs⟩
end
end Par
